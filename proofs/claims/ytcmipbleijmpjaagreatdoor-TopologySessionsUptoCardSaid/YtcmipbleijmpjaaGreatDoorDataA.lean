/- What the functions of this program give, on the abstract machine. -/
import Derived.Test.YtcmipbleijmpjaaGreatDoorMachineC
import Derived.Test.YtcmipbleijmpjaaGreatDoorLibraryA
import Derived.KernelRfl
set_option linter.unusedVariables false
set_option linter.unusedSimpArgs false
set_option maxRecDepth 100000
namespace Go.AM.IR
open Go Go.AM
abbrev LO := List AOper
abbrev LI := List AItem
abbrev Rg (a : LO) : ACode := .region a false
abbrev Rd (a : LO) : ACode := .region a true
abbrev Sq := ACode.seq
abbrev Sk := ACode.skip
abbrev Rt := ACode.ret
abbrev Cn (n : Nat) (a b : ACode) : ACode := .cond (.t n) a b
abbrev Bk := ACode.block
abbrev Xt := ACode.exit
abbrev Rr (a : LO) : ACode := .seq (.region a false) .ret
abbrev Cx (n e : Nat) : ACode := .cond (.t n) .skip (.exit e)
abbrev Ci (n : Nat) (a : ACode) : ACode := .cond (.t n) a .skip
abbrev Sr (a : LO) (b : ACode) : ACode := .seq (.region a false) b
abbrev Bl (n : Nat) (a : ACode) : ACode := .block n (.loop a)
abbrev zz0:List AV:=[.int .i64 0, .int .i64 0, .int .i64 0, .con (.slice none 0 0)]
abbrev zz1:List AV:=[.str []]
abbrev zz2:List AV:=[.str [], .con (.slice none 0 0)]
abbrev zz3:List AV:=[.int .i64 0, .int .u32 0, .int .i64 0, .int .u32 0, .int .u32 0, .int .i64 0, .int .i64 0, .int .i64 0, .int .i64 0]
abbrev zz4:List AV:=[.str [], .int .u32 0, .con (.slice none 0 0), .con (.slice none 0 0), .bool false, .int .i64 0, .int .i64 0, .int .u32 0, .int .u32 0, .con (.slice none 0 0), .con (.slice none 0 0), .con (.slice none 0 0), .con (.slice none 0 0), .con (.slice none 0 0), .con (.slice none 0 0), .int .i64 0, .int .i64 0, .int .i64 0, .int .i64 0, .int .i64 0, .bool false, .bool false, .con (.slice none 0 0), .con (.slice none 0 0), .con (.slice none 0 0)]
abbrev zz5:List AV:=[.int .u32 0, .int .i64 0]
abbrev zz6:List AV:=[.con (.slice none 0 0), .con (.slice none 0 0)]
abbrev zz7:List AV:=[.int .i64 0, .int .i64 0]
abbrev zz8:List AV:=[.str [], .con (.slice none 0 0), .int .i64 0]
abbrev zz9:List AV:=[.str [], .str [], .str [], .str []]
abbrev mQ:List AV:=[.int .i64 0, .int .i64 0, .int .u32 0, .int .u32 0, .bool false, .int .i64 0, .int .i64 0, .str [], .str [], .bool false, .bool false]
abbrev sS:List AV:=[.con (.slice none 0 0), .int .i64 0]
abbrev sR:List AV:=[.int .i64 0]
abbrev sO:List AV:=[.int .u32 0, .int .i64 0, .int .u32 0, .int .i64 0]
abbrev sN:List AV:=[.int .u32 0, .int .u32 0, .int .i64 0, .bool false]
abbrev xP:List AV:=[.int .i64 0, .int .i64 0, .str [], .int .i64 0, .bool false]
abbrev J4:List AV:=[.int .i64 0, .int .i64 0, .int .i64 0, .int .i64 0, .bool false]
abbrev J3:List AV:=[.con (.slice none 0 0), .con (.slice none 0 0), .con (.slice none 0 0), .con (.slice none 0 0)]
abbrev OA:List AV:=[.str [], .con (.slice none 0 0), .con (.slice none 0 0), .int .i64 0]
abbrev Oz:List AV:=[.int .i64 0, .int .i64 0, .int .i64 0, .int .u32 0, .int .u32 0]
abbrev zz20:List AV:=[.bool false, .int .u32 0, .int .i64 0, .int .i64 0, .int .i64 0]
abbrev zz21:List AV:=[.bool false, .int .i64 0, .int .i64 0]
def aqR:LO:=[Op 1 (.box (.t 0)),Mc 2 (.bool false)]
def aqQ:LO:=[Ls 6 2 1,Ct 7 377 [6],Un 8 .not 7,Mv 9 8,Gf 9 (Ls 10 2 1),Gf 9 (Ct 11 380 [10]),Gf 9 (Bc 12 .neq 11 0),Po 13 9 12]
def aqP:LO:=[Ct 14 378 [],Mv 2 14]
def aqO:LO:=[Ls 15 2 1,Af [0] (Ct 16 389 [15]),Ls 17 2 1,Af [2, 1, 0] (Ct 18 390 [17]),Mv 3 16,Mv 4 18]
def aqN:LO:=[Mv 19 3,Ln 20 0 19,Mv 21 4,Ln 22 0 21,Bi 23 .neq 20 22]
def aqM:LO:=[Mc 2 (.bool false)]
def aqL:LO:=[Mv 24 3,Ln 25 0 24,Mc 26 (.int .i64 0)]
def aqK:LO:=[Bi 27 .lss 26 25]
def aqJ:LO:=[Mv 28 26,Mv 5 28]
def aqI:LO:=[Mv 29 3,Mv 30 5,Ia 31 5 29 30,Af [2] (Ls 32 5 31),Mv 33 4,Mv 34 5,Ia 35 5 33 34,Af [6] (Ls 36 5 35),Op 37 (.eqs [.int, .int, .int, .int, .bool] true (.t 32) (.t 36))]
def acx:LO:=[Mc 2 (.bool false)]
def acw:LO:=[Bc 38 .add 26 1,Mv 26 38]
def Ba:ACode:=(Sr aqK (Sq (Cx 27 0) (Sq (Bk 1 (Sr aqJ (Sq (Rd aqI) (Ci 37 (Rr acx))))) (Rg acw))))
def JD:LO:=[Ct 39 378 [],Mv 2 39]
def f374 : AFunc := ⟨40, 1, false, [.t 2], (Sr aqR (Sq (Sr aqQ (Ci 13 (Rr aqP))) (Sq (Rd aqO) (Sq (Sr aqN (Ci 23 (Rr aqM))) (Sq (Sr aqL (Bl 0 Ba)) (Rr JD))))))⟩
def NX:LI:=[.inLoop Ba, .inBlock 0, .code (Rr JD)]
def aqH:LO:=[Op 1 (.box (.t 0)),Mc 2 (.bool false)]
def aqG:LO:=[Ls 10 2 1,Ct 11 377 [10],Un 12 .not 11,Mv 13 12,Gf 13 (Ls 14 2 1),Gf 13 (Ct 15 380 [14]),Gf 13 (Bc 16 .neq 15 0),Po 17 13 16]
def aqF:LO:=[Ct 18 378 [],Mv 2 18]
def aqE:LO:=[Ls 19 2 1,Ct 20 389 [19],Mv 3 20]
def aqD:LO:=[Mv 21 3,Ln 22 0 21,Mc 23 (.int .i64 0)]
def aqC:LO:=[Bi 24 .lss 23 22]
def aqB:LO:=[Mv 25 23,Mv 4 25]
def aqA:LO:=[Mv 26 3,Mv 27 4,Ia 28 5 26 27,Fa 29 0 28,Af [2] (Ld 30 29),Mv 31 3,Mv 32 4,Ia 33 5 31 32,Fa 34 1 33,Af [7] (Ld 35 34),Mv 5 30,Mv 6 35]
def aqz:LO:=[Mv 36 5,Bc 37 .lss 36 0,Mv 38 37,Gf 38 (Mv 39 6),Gf 38 (Mv 40 5),Gf 38 (Bi 41 .leq 39 40),Po 42 38 41,Mv 43 42,Gf 43 (Mv 44 6),Gf 43 (Fa 45 0 1),Gf 43 (Ld 46 45),Af [10] (Gf 43 (Ln 47 0 46)),Gf 43 (Bi 48 .geq 44 47),Po 49 43 48,Mv 50 49,Gf 50 (Mv 51 3),Gf 50 (Mv 52 4),Af [11, 10] (Gf 50 (Ia 53 5 51 52)),Gf 50 (Fa 54 4 53),Af [17, 11, 10] (Gf 50 (Ld 55 54)),Po 56 50 55,Mv 57 56,Gf 57 (Mv 58 3),
 Gf 57 (Mv 59 4),Af [19, 17, 11, 10] (Gf 57 (Ia 60 5 58 59)),Gf 57 (Fa 61 2 60),Af [24, 19, 17, 11, 10] (Gf 57 (Ld 62 61)),Gf 57 (Bc 63 .lss 62 0),Po 64 57 63,Mv 65 64,Gf 65 (Mv 66 3),Gf 65 (Mv 67 4),Af [26, 24, 19, 17, 11, 10] (Gf 65 (Ia 68 5 66 67)),Gf 65 (Fa 69 3 68),Af [32, 26, 24, 19, 17, 11, 10] (Gf 65 (Ld 70 69)),Gf 65 (Bc 71 .lss 70 0),Po 72 65 71,Mv 73 72,Gf 73 (Mv 74 3),Gf 73 (Mv 75 4),
 Af [34, 32, 26, 24, 19, 17, 11, 10] (Gf 73 (Ia 76 5 74 75)),Gf 73 (Fa 77 2 76),Af [40, 34, 32, 26, 24, 19, 17, 11, 10] (Gf 73 (Ld 78 77)),Gf 73 (Fa 79 0 1),Af [34, 32, 26, 24, 19, 17, 11, 10] (Gf 73 (Ld 80 79)),Gf 73 (Mv 81 5),Af [44, 34, 32, 26, 24, 19, 17, 11, 10] (Gf 73 (Ia 82 25 80 81)),Gf 73 (Fa 83 5 82),Gf 73 (Fa 84 4 83),Af [46, 44, 34, 32, 26, 24, 19, 17, 11, 10] (Gf 73 (Ld 85 84)),
 Af [49, 46, 44, 34, 32, 26, 24, 19, 17, 11, 10] (Gf 73 (Ln 86 0 85)),Gf 73 (Bi 87 .geq 78 86),Po 88 73 87,Mv 89 88,Gf 89 (Mv 90 3),Gf 89 (Mv 91 4),Af [42, 50, 40, 49, 46, 44, 34, 32, 26, 24, 19, 17, 11, 10] (Gf 89 (Ia 92 5 90 91)),Gf 89 (Fa 93 3 92),Af [56, 42, 50, 40, 49, 46, 44, 34, 32, 26, 24, 19, 17, 11, 10] (Gf 89 (Ld 94 93)),Gf 89 (Fa 95 0 1),
 Af [42, 50, 40, 49, 46, 44, 34, 32, 26, 24, 19, 17, 11, 10] (Gf 89 (Ld 96 95)),Gf 89 (Mv 97 6),Af [60, 42, 50, 40, 49, 46, 44, 34, 32, 26, 24, 19, 17, 11, 10] (Gf 89 (Ia 98 25 96 97)),Gf 89 (Fa 99 5 98),Gf 89 (Fa 100 4 99),Af [62, 60, 42, 50, 40, 49, 46, 44, 34, 32, 26, 24, 19, 17, 11, 10] (Gf 89 (Ld 101 100)),
 Af [65, 62, 60, 42, 50, 40, 49, 46, 44, 34, 32, 26, 24, 19, 17, 11, 10] (Gf 89 (Ln 102 0 101)),Gf 89 (Bi 103 .geq 94 102),Po 104 89 103]
def aqy:LO:=[Mc 2 (.bool false)]
def acv:LO:=[Fa 105 0 1,Ld 106 105,Mv 107 5,Af [1] (Ia 108 25 106 107),Fa 109 5 108,Fa 110 4 109,Af [3, 1] (Ld 111 110),Mv 112 3,Mv 113 4,Ia 114 5 112 113,Fa 115 2 114,Af [9] (Ld 116 115),Af [6, 11, 3, 1, 9] (Ia 117 11 111 116),Af [12, 6, 11, 3, 1, 9] (Ls 118 11 117),Fa 119 0 1,Ld 120 119,Mv 121 6,Af [15] (Ia 122 25 120 121),Fa 123 5 122,Fa 124 4 123,Af [17, 15] (Ld 125 124),Mv 126 3,Mv 127 4,Ia 128 5 126 127,
 Fa 129 3 128,Af [23] (Ld 130 129),Af [20, 25, 17, 15, 23] (Ia 131 11 125 130),Af [26, 20, 25, 17, 15, 23] (Ls 132 11 131),Op 7 (.alloc (.agg mQ)),Op 8 (.alloc (.agg mQ)),Af [13, 28, 29, 12, 6, 11, 3, 1, 9] (St 11 7 118),Af [27, 30, 26, 20, 25, 17, 15, 23, 13, 28, 29, 12, 6, 11, 3, 1, 9] (St 11 8 132)]
def acu:LO:=[Fa 133 2 7,Ld 134 133,Fa 135 3 8,Ld 136 135,Bi 137 .neq 134 136,Mv 138 137,Gf 138 (Fa 139 3 7),Gf 138 (Ld 140 139),Gf 138 (Fa 141 2 8),Gf 138 (Ld 142 141),Gf 138 (Bi 143 .neq 140 142),Po 144 138 143]
def act:LO:=[Mc 2 (.bool false)]
def acs:LO:=[Mv 145 4,Mc 146 (.int .i64 0)]
def acr:LO:=[Bi 147 .lss 146 145]
def acq:LO:=[Mv 148 146,Mv 9 148]
def acp:LO:=[Mv 149 3,Mv 150 9,Ia 151 5 149 150,Fa 152 0 151,Af [2] (Ld 153 152),Mv 154 5,Bi 155 .eql 153 154,Mv 156 155,Gt 156 (Mv 157 3),Gt 156 (Mv 158 9),Af [4, 2] (Gt 156 (Ia 159 5 157 158)),Gt 156 (Fa 160 2 159),Af [10, 4, 2] (Gt 156 (Ld 161 160)),Gt 156 (Mv 162 3),Gt 156 (Mv 163 4),Af [4, 2] (Gt 156 (Ia 164 5 162 163)),Gt 156 (Fa 165 2 164),Af [15, 4, 2] (Gt 156 (Ld 166 165)),
 Gt 156 (Bi 167 .eql 161 166),Pa 168 156 167,Mv 169 168,Gf 169 (Mv 170 3),Gf 169 (Mv 171 9),Af [12, 17, 10, 15, 4, 2] (Gf 169 (Ia 172 5 170 171)),Gf 169 (Fa 173 1 172),Af [23, 12, 17, 10, 15, 4, 2] (Gf 169 (Ld 174 173)),Gf 169 (Mv 175 6),Gf 169 (Bi 176 .eql 174 175),Gf 169 (Mv 177 176),Gt 177 (Mv 178 3),Gt 177 (Mv 179 9),Af [25, 23, 12, 17, 10, 15, 4, 2] (Gt 177 (Ia 180 5 178 179)),
 Gt 177 (Fa 181 3 180),Af [31, 25, 23, 12, 17, 10, 15, 4, 2] (Gt 177 (Ld 182 181)),Gt 177 (Mv 183 3),Gt 177 (Mv 184 4),Af [25, 23, 12, 17, 10, 15, 4, 2] (Gt 177 (Ia 185 5 183 184)),Gt 177 (Fa 186 3 185),Af [36, 25, 23, 12, 17, 10, 15, 4, 2] (Gt 177 (Ld 187 186)),Gt 177 (Bi 188 .eql 182 187),Gf 169 (Pa 189 177 188),Po 190 169 189,Mv 191 190,Gf 191 (Mv 192 3),Gf 191 (Mv 193 9),
 Af [33, 38, 31, 36, 25, 23, 12, 17, 10, 15, 4, 2] (Gf 191 (Ia 194 5 192 193)),Gf 191 (Fa 195 1 194),Af [45, 33, 38, 31, 36, 25, 23, 12, 17, 10, 15, 4, 2] (Gf 191 (Ld 196 195)),Gf 191 (Mv 197 5),Gf 191 (Bi 198 .eql 196 197),Gf 191 (Mv 199 198),Gt 199 (Mv 200 3),Gt 199 (Mv 201 9),Af [47, 45, 33, 38, 31, 36, 25, 23, 12, 17, 10, 15, 4, 2] (Gt 199 (Ia 202 5 200 201)),Gt 199 (Fa 203 3 202),
 Af [53, 47, 45, 33, 38, 31, 36, 25, 23, 12, 17, 10, 15, 4, 2] (Gt 199 (Ld 204 203)),Gt 199 (Mv 205 3),Gt 199 (Mv 206 4),Af [47, 45, 33, 38, 31, 36, 25, 23, 12, 17, 10, 15, 4, 2] (Gt 199 (Ia 207 5 205 206)),Gt 199 (Fa 208 2 207),Af [58, 47, 45, 33, 38, 31, 36, 25, 23, 12, 17, 10, 15, 4, 2] (Gt 199 (Ld 209 208)),Gt 199 (Bi 210 .eql 204 209),Gf 191 (Pa 211 199 210),Po 212 191 211]
def aco:LO:=[Mc 2 (.bool false)]
def acn:LO:=[Bc 213 .add 146 1,Mv 146 213]
def AY:ACode:=(Sr acr (Sq (Cx 147 2) (Sq (Bk 3 (Sr acq (Sq (Rd acp) (Ci 212 (Rr aco))))) (Rg acn))))
def JC:LO:=[Bc 214 .add 23 1,Mv 23 214]
def qJ:ACode:=(Sr aqC (Sq (Cx 24 0) (Sq (Bk 1 (Sr aqB (Sq (Rd aqA) (Sq (Sq (Rd aqz) (Ci 104 (Rr aqy))) (Sq (Rd acv) (Sq (Sr acu (Ci 144 (Rr act))) (Sr acs (Bl 2 AY)))))))) (Rg JC))))
def uD:LO:=[Ct 215 378 [],Mv 2 215]
def f375 : AFunc := ⟨216, 1, false, [.t 2], (Sr aqH (Sq (Sr aqG (Ci 17 (Rr aqF))) (Sr aqE (Sq (Sr aqD (Bl 0 qJ)) (Rr uD)))))⟩
def wn:LI:=[.inLoop qJ, .inBlock 0, .code (Rr uD)]
def NW:LI:=[.inLoop AY, .inBlock 2, .inBlock 1, .code (Rg JC), .inLoop qJ, .inBlock 0, .code (Rr uD)]
def aqx:LO:=[Op 1 (.box (.t 0)),Mc 2 (.bool false)]
def aqw:LO:=[Fa 5 0 1,Ld 6 5,Ln 7 0 6,Bc 8 .gtr 7 12,Mv 9 8,Gt 9 (Fa 10 0 1),Gt 9 (Ld 11 10),Gt 9 (Ln 12 0 11),Gt 9 (Bc 13 .leq 12 32),Pa 14 9 13,Mv 15 14,Gf 15 (Fa 16 1 1),Gf 15 (Ld 17 16),Gf 15 (Ln 18 0 17),Gf 15 (Bc 19 .gtr 18 24),Gf 15 (Mv 20 19),Gt 20 (Fa 21 1 1),Gt 20 (Ld 22 21),Gt 20 (Ln 23 0 22),Gt 20 (Bc 24 .leq 23 64),Gf 15 (Pa 25 20 24),Po 26 15 25,Mv 27 26,Gf 27 (Fa 28 0 1),Gf 27 (Ld 29 28),
 Gf 27 (Ln 30 0 29),Gf 27 (Bc 31 .gtr 30 40),Po 32 27 31,Mv 33 32,Gf 33 (Fa 34 1 1),Gf 33 (Ld 35 34),Gf 33 (Ln 36 0 35),Gf 33 (Bc 37 .gtr 36 80),Po 38 33 37]
def aqv:LO:=[Mc 2 (.bool false)]
def aqu:LO:=[Fa 39 0 1,Ld 40 39,Ln 41 0 40,Mc 42 (.int .i64 0)]
def aqt:LO:=[Bi 43 .lss 42 41]
def aqs:LO:=[Mv 44 42,Mv 3 44]
def aqr:LO:=[Fa 45 0 1,Ld 46 45,Mv 47 3,Ia 48 25 46 47,Ls 49 25 48,Ct 50 395 [49],Un 51 .not 50]
def aqq:LO:=[Mc 2 (.bool false)]
def aqp:LO:=[Bc 52 .add 42 1,Mv 42 52]
def JA:ACode:=(Sr aqt (Sq (Cx 43 0) (Sq (Bk 1 (Sr aqs (Sr aqr (Ci 51 (Rr aqq))))) (Rg aqp))))
def JB:LO:=[Fa 53 1 1,Ld 54 53,Ln 55 0 54,Mc 56 (.int .i64 0)]
def acm:LO:=[Bi 57 .lss 56 55]
def acl:LO:=[Mv 58 56,Mv 4 58]
def ack:LO:=[Fa 59 1 1,Ld 60 59,Mv 61 4,Ia 62 2 60 61,Fa 63 0 62,Ld 64 63,Ln 65 0 64,Bc 66 .gtr 65 20]
def acj:LO:=[Mc 2 (.bool false)]
def aci:LO:=[Bc 67 .add 56 1,Mv 56 67]
def qI:ACode:=(Sr acm (Sq (Cx 57 2) (Sq (Bk 3 (Sr acl (Sr ack (Ci 66 (Rr acj))))) (Rg aci))))
def uC:LO:=[Mc 2 (.bool true)]
def f377 : AFunc := ⟨68, 1, false, [.t 2], (Sr aqx (Sq (Sr aqw (Ci 38 (Rr aqv))) (Sq (Sr aqu (Bl 0 JA)) (Sq (Sr JB (Bl 2 qI)) (Rr uC)))))⟩
def Qu:LI:=[.inLoop JA, .inBlock 0, .code (Sq (Sr JB (Bl 2 qI)) (Rr uC))]
def NV:LI:=[.inLoop qI, .inBlock 2, .code (Rr uC)]
def aqo:LO:=[Mc 0 (.bool false)]
def aqn:LO:=[
 Mc 1 (.str [114, 111, 117, 116, 101, 114, 32, 97, 32, 49, 10, 105, 102, 97, 99, 101, 32, 112, 111, 105, 110, 116, 32, 49, 48, 46, 48, 46, 48, 46, 48, 47, 51, 49, 32, 49, 48, 46, 48, 46, 48, 46, 48, 32, 48, 32, 49, 48, 32, 49, 32, 49, 48, 32, 52, 48, 10, 114, 111, 117, 116, 101, 114, 32, 98, 32, 50, 10, 105, 102, 97, 99, 101, 32, 112, 111, 105, 110, 116, 32, 49, 48, 46, 48, 46, 48, 46, 48, 47, 51, 49, 32, 49, 48, 46, 48, 46, 48, 46, 49, 32, 48, 32, 49, 48, 32, 49, 32, 49, 48, 32, 52, 48, 10, 108, 105, 110, 107, 32, 49, 32, 97, 58, 48, 32, 98, 58, 48, 10])]
def aqm:LO:=[Mv 10 1,Ct 11 383 [10],Mv 9 11,Ex 12 9 0,Ex 13 9 1,Ex 14 9 2,Op 2 (.alloc (.agg zz6)),St 2 2 12,Mv 3 13,Mv 4 14]
def aql:LO:=[Ls 16 2 2,Ct 17 381 [16],Mv 15 17,Ex 18 15 0,Ex 19 15 1,Mv 5 18,Mv 6 19]
def aqk:LO:=[Ls 21 2 2,Ca 22 386 [(.t 21), (.c (.str [98]))],Mv 20 22,Ex 23 20 0,Ex 24 20 1,Mv 7 23,Mv 8 24]
def aqj:LO:=[Mv 25 4,Bc 26 .eql 25 0,Mv 27 26,Gt 27 (Mv 28 3),Gt 27 (Bc 29 .eql 28 0),Pa 30 27 29,Mv 31 30,Gt 31 (Mv 32 6),Gt 31 (Bc 33 .eql 32 0),Pa 34 31 33,Mv 35 34,Gt 35 (Mv 36 5),Gt 35 (Mv 37 1),Gt 35 (Bi 38 .eql 36 37),Pa 39 35 38,Mv 40 39,Gt 40 (Mv 41 8),Pa 42 40 41,Mv 43 42,Gt 43 (Mv 44 7),Gt 43 (Bc 45 .eql 44 1),Pa 46 43 45,Mv 47 46,Gt 47 (Fa 48 0 2),Gt 47 (Ld 49 48),Gt 47 (Ln 50 0 49),
 Gt 47 (Bc 51 .eql 50 2),Pa 52 47 51,Mv 53 52,Gt 53 (Fa 54 1 2),Gt 53 (Ld 55 54),Gt 53 (Ln 56 0 55),Gt 53 (Bc 57 .eql 56 1),Pa 58 53 57,Mv 59 58,Gt 59 (Ls 60 2 2),Gt 59 (Ct 61 379 [60]),Gt 59 (Bc 62 .eql 61 0),Pa 63 59 62,Mv 0 63]
def f378 : AFunc := ⟨64, 0, false, [.t 0], (Sr aqo (Sr aqn (Sr aqm (Sr aql (Sr aqk (Rr aqj))))))⟩
def aqi:LO:=[Op 1 (.box (.t 0)),Mc 2 (.int .i64 0)]
def aqh:LO:=[Fa 15 0 1,Ld 16 15,Ln 17 0 16,Bc 18 .gtr 17 32,Mv 19 18,Gf 19 (Fa 20 1 1),Gf 19 (Ld 21 20),Gf 19 (Ln 22 0 21),Gf 19 (Bc 23 .gtr 22 64),Po 24 19 23]
def aqg:LO:=[Mc 2 (.int .i64 4)]
def aqf:LO:=[Fa 25 0 1,Ld 26 25,Ln 27 0 26,Mc 28 (.int .i64 0)]
def aqe:LO:=[Bi 29 .lss 28 27]
def aqd:LO:=[Mv 30 28,Ia 31 25 26 28,Ls 32 25 31,Op 4 (.alloc (.agg zz4)),Mv 3 30,St 25 4 32]
def aqc:LO:=[Fa 33 0 1,Ld 34 33,Mv 35 3,Af [1] (Op 36 (.slc 25 (.t 34) none (some (.t 35)) none)),Ls 37 25 4,Af [3, 4, 1] (Ct 38 396 [36, 37]),Mv 5 38]
def aqb:LO:=[Mv 39 5,Bc 40 .neq 39 0]
def aqa:LO:=[Mv 41 5,Mv 2 41]
def ap9:LO:=[Bc 42 .add 28 1,Mv 28 42]
def AX:ACode:=(Sr aqe (Sq (Cx 29 0) (Sq (Bk 1 (Sr aqd (Sq (Rd aqc) (Sr aqb (Ci 40 (Rr aqa)))))) (Rg ap9))))
def Jz:LO:=[Op 43 (.mkmap),Mv 6 43]
def Jy:LO:=[Fa 44 0 1,Ld 45 44,Ln 46 0 45,Mc 47 (.int .i64 0)]
def ach:LO:=[Bi 48 .lss 47 46]
def acg:LO:=[Ia 49 25 45 47,Ls 50 25 49,Op 8 (.alloc (.agg zz4)),St 25 8 50]
def acf:LO:=[Fa 51 1 8,Fa 52 1 51,Ld 53 52,Ln 54 0 53,Mc 55 (.int .i64 0)]
def ace:LO:=[Bi 56 .lss 55 54]
def acd:LO:=[Ia 57 9 53 55,Ls 58 9 57,Op 10 (.alloc (.agg zz3)),St 9 10 58]
def acb:LO:=[Mv 59 6,Fa 60 3 10,Ld 61 60,Op 62 (.mlook false [.int] (.bool false) (.t 59) (.t 61))]
def aca:LO:=[Mc 2 (.int .i64 7)]
def ab9:LO:=[Mv 63 6,Fa 64 3 10,Ld 65 64,⟨none, .mset false [.int] (.t 63) (.t 65) (.c (.bool true)), none, []⟩]
def ab8:LO:=[Bc 66 .add 55 1,Mv 55 66]
def AW:ACode:=(Sr ace (Sq (Cx 56 4) (Sq (Bk 5 (Sr acd (Sq (Sr acb (Ci 62 (Rr aca))) (Rg ab9)))) (Rg ab8))))
def Jx:LO:=[Bc 67 .add 47 1,Mv 47 67]
def mt:ACode:=(Sr ach (Sq (Cx 48 2) (Sq (Bk 3 (Sr acg (Sr acf (Bl 4 AW)))) (Rg Jx))))
def oM:LO:=[Op 68 (.mkmap),Mv 11 68]
def oL:LO:=[Fa 69 1 1,Ld 70 69,Ln 71 0 70,Mc 72 (.int .i64 0)]
def ab7:LO:=[Bi 73 .lss 72 71]
def ab6:LO:=[Ia 74 2 70 72,Ls 75 2 74,Op 13 (.alloc (.agg sS)),St 2 13 75]
def ab5:LO:=[Ls 76 2 1,Ls 77 2 13,Mv 78 11,Ct 79 397 [76, 77, 78],Mv 14 79]
def ab4:LO:=[Mv 80 14,Bc 81 .neq 80 0]
def ab3:LO:=[Mv 82 14,Mv 2 82]
def ab2:LO:=[Bc 83 .add 72 1,Mv 72 83]
def jU:ACode:=(Sr ab7 (Sq (Cx 73 6) (Sq (Bk 7 (Sr ab6 (Sr ab5 (Sr ab4 (Ci 81 (Rr ab3)))))) (Rg ab2))))
def ld:LO:=[Mc 2 (.int .i64 0)]
def f379 : AFunc := ⟨84, 1, false, [.t 2], (Sr aqi (Sq (Sr aqh (Ci 24 (Rr aqg))) (Sq (Sr aqf (Bl 0 AX)) (Sr Jz (Sq (Sr Jy (Bl 2 mt)) (Sr oM (Sq (Sr oL (Bl 6 jU)) (Rr ld))))))))⟩
def ap8:LO:=[Op 1 (.box (.t 0)),Mc 2 (.int .i64 0)]
def ap7:LO:=[Fa 7 0 1,Ld 8 7,Ln 9 0 8,Bc 10 .gtr 9 32,Mv 11 10,Gf 11 (Fa 12 1 1),Gf 11 (Ld 13 12),Gf 11 (Ln 14 0 13),Gf 11 (Bc 15 .gtr 14 64),Po 16 11 15]
def ap6:LO:=[Mc 2 (.int .i64 4)]
def ap5:LO:=[Fa 17 0 1,Ld 18 17,Ln 19 0 18,Mc 20 (.int .i64 0)]
def ap4:LO:=[Bi 21 .lss 20 19]
def ap3:LO:=[Mv 22 20,Mv 3 22]
def ap2:LO:=[Ls 23 2 1,Mv 24 3,Ct 25 398 [23, 24],Mv 4 25]
def ap1:LO:=[Mv 26 4,Bc 27 .neq 26 0]
def ap0:LO:=[Mv 28 4,Mv 2 28]
def apZ:LO:=[Bc 29 .add 20 1,Mv 20 29]
def AU:ACode:=(Sr ap4 (Sq (Cx 21 0) (Sq (Bk 1 (Sr ap3 (Sr ap2 (Sr ap1 (Ci 27 (Rr ap0)))))) (Rg apZ))))
def Jw:LO:=[Ls 30 2 1,Ct 31 400 [30],Ct 32 399 [31]]
def Jv:LO:=[Mc 2 (.int .i64 7)]
def Ju:LO:=[Fa 33 1 1,Ld 34 33,Ln 35 0 34,Mc 36 (.int .i64 0)]
def ab1:LO:=[Bi 37 .lss 36 35]
def ab0:LO:=[Mv 38 36,Mv 5 38]
def abZ:LO:=[Ls 39 2 1,Mv 40 5,Ct 41 401 [39, 40],Mv 6 41]
def abY:LO:=[Mv 42 6,Bc 43 .neq 42 0]
def abX:LO:=[Mv 44 6,Mv 2 44]
def abW:LO:=[Bc 45 .add 36 1,Mv 36 45]
def qH:ACode:=(Sr ab1 (Sq (Cx 37 2) (Sq (Bk 3 (Sr ab0 (Sr abZ (Sr abY (Ci 43 (Rr abX)))))) (Rg abW))))
def uB:LO:=[Mc 2 (.int .i64 0)]
def f380 : AFunc := ⟨46, 1, false, [.t 2], (Sr ap8 (Sq (Sr ap7 (Ci 16 (Rr ap6))) (Sq (Sr ap5 (Bl 0 AU)) (Sq (Sr Jw (Ci 32 (Rr Jv))) (Sq (Sr Ju (Bl 2 qH)) (Rr uB))))))⟩
def NU:LI:=[.inLoop AU, .inBlock 0, .code (Sq (Sr Jw (Ci 32 (Rr Jv))) (Sq (Sr Ju (Bl 2 qH)) (Rr uB)))]
def NT:LI:=[.inLoop qH, .inBlock 2, .code (Rr uB)]
def apo:LO:=[Op 1 (.box (.t 0)),Mc 2 (.con (.slice none 0 0))]
def apn:LO:=[Op 13 (.mkmap),Mv 3 13]
def apm:LO:=[Mc 4 (.con (.slice none 0 0))]
def apl:LO:=[Fa 14 0 1,Ld 15 14,Ln 16 0 15,Mc 17 (.int .i64 0)]
def apk:LO:=[Bi 18 .lss 17 16]
def apj:LO:=[Mv 19 17,Ia 20 25 15 17,Ls 21 25 20,Op 6 (.alloc (.agg zz4)),Mv 5 19,St 25 6 21]
def api:LO:=[Fa 22 5 6,Fa 23 4 22,Ld 24 23,Ln 25 0 24,Mc 26 (.int .i64 0)]
def aph:LO:=[Bi 27 .lss 26 25]
def apg:LO:=[Mv 28 26,Ia 29 11 24 26,Ls 30 11 29,Op 8 (.alloc (.agg mQ)),Mv 7 28,St 11 8 30]
def apf:LO:=[Mv 31 5,Bc 32 .add 31 1,Mv 9 32]
def abq:LO:=[Mv 33 9,Fa 34 0 1,Ld 35 34,Ln 36 0 35,Bi 37 .lss 33 36]
def abp:LO:=[Fa 40 0 1,Ld 41 40,Mv 42 9,Ia 43 25 41 42,Ls 44 25 43,Op 10 (.alloc (.agg zz4)),St 25 10 44]
def abo:LO:=[Fa 45 5 10,Fa 46 4 45,Ld 47 46,Ln 48 0 47,Mc 49 (.int .i64 0)]
def abn:LO:=[Bi 50 .lss 49 48]
def abm:LO:=[Mv 51 49,Ia 52 11 47 49,Ls 53 11 52,Op 12 (.alloc (.agg mQ)),Mv 11 51,St 11 12 53]
def abl:LO:=[Fa 54 4 6,Ld 55 54,Mv 56 55,Gt 56 (Fa 57 4 10),Gt 56 (Ld 58 57),Pa 59 56 58,Mv 60 59,Gt 60 (Fa 61 2 8),Gt 60 (Ld 62 61),Gt 60 (Fa 63 3 12),Gt 60 (Ld 64 63),Gt 60 (Bi 65 .eql 62 64),Pa 66 60 65,Mv 67 66,Gt 67 (Fa 68 2 12),Gt 67 (Ld 69 68),Gt 67 (Fa 70 3 8),Gt 67 (Ld 71 70),Gt 67 (Bi 72 .eql 69 71),Pa 73 67 72,Mv 74 73,Gt 74 (Mv 75 3),Gt 74 (Mv 76 5),Gt 74 (Mv 77 7),
 Gt 74 (Op 78 (.build zz7 [(0, 1), (1, 1)] [(.t 76), (.t 77)])),Gt 74 (Op 79 (.mlook true [.int, .int] (.bool false) (.t 75) (.t 78))),Gt 74 (Un 80 .not 79),Pa 81 74 80,Mv 82 81,Gt 82 (Mv 83 3),Gt 82 (Mv 84 9),Gt 82 (Mv 85 11),Gt 82 (Op 86 (.build zz7 [(0, 1), (1, 1)] [(.t 84), (.t 85)])),Gt 82 (Op 87 (.mlook true [.int, .int] (.bool false) (.t 83) (.t 86))),Gt 82 (Un 88 .not 87),Pa 89 82 88]
def abk:LO:=[Mv 90 3,Mv 91 5,Mv 92 7,Op 93 (.build zz7 [(0, 1), (1, 1)] [(.t 91), (.t 92)]),⟨none, .mset true [.int, .int] (.t 90) (.t 93) (.c (.bool true)), none, []⟩]
def abj:LO:=[Mv 94 3,Mv 95 9,Mv 96 11,Op 97 (.build zz7 [(0, 1), (1, 1)] [(.t 95), (.t 96)]),⟨none, .mset true [.int, .int] (.t 94) (.t 97) (.c (.bool true)), none, []⟩]
def abh:LO:=[Mv 98 4,Mv 99 5,Mv 100 9,Mv 101 7,Mv 102 11,Op 103 (.build J4 [(0, 1), (1, 1), (2, 1), (3, 1)] [(.t 99), (.t 100), (.t 101), (.t 102)]),Op 104 (.bsl 5 J4 1 [0] [(.t 103)]),Ap 105 5 40 98 104,Mv 4 105]
def abg:LO:=[Bc 106 .add 49 1,Mv 49 106]
def AG:ACode:=(Sr abn (Sq (Cx 50 6) (Sq (Bk 7 (Sr abm (Sr abl (Cn 89 (Sr abk (Sr abj (Rg abh))) Sk)))) (Rg abg))))
def Jc:LO:=[Mv 38 9,Bc 39 .add 38 1,Mv 9 39]
def qF:ACode:=(Sq (Sr abq (Cx 37 4)) (Sq (Bk 5 (Sr abp (Sr abo (Bl 6 AG)))) (Rg Jc)))
def ut:LO:=[Bc 107 .add 26 1,Mv 26 107]
def mq:ACode:=(Sr aph (Sq (Cx 27 2) (Sq (Bk 3 (Sr apg (Sr apf (Bl 4 qF)))) (Rg ut))))
def oD:LO:=[Bc 108 .add 17 1,Mv 17 108]
def jT:ACode:=(Sr apk (Sq (Cx 18 0) (Sq (Bk 1 (Sr apj (Sr api (Bl 2 mq)))) (Rg oD))))
def lc:LO:=[Mv 109 4,Mv 2 109]
def f389 : AFunc := ⟨110, 1, false, [.t 2], (Sr apo (Sr apn (Sr apm (Sq (Sr apl (Bl 0 jT)) (Rr lc)))))⟩
def wh:LI:=[.inLoop jT, .inBlock 0, .code (Rr lc)]
def wl:LI:=[.inLoop mq, .inBlock 2, .inBlock 1, .code (Rg oD), .inLoop jT, .inBlock 0, .code (Rr lc)]
def wm:LI:=[.inLoop qF, .inBlock 4, .inBlock 3, .code (Rg ut), .inLoop mq, .inBlock 2, .inBlock 1, .code (Rg oD), .inLoop jT, .inBlock 0, .code (Rr lc)]
def NN:LI:=[.inLoop AG, .inBlock 6, .inBlock 5, .code (Rg Jc), .inLoop qF, .inBlock 4, .inBlock 3, .code (Rg ut), .inLoop mq, .inBlock 2, .inBlock 1, .code (Rg oD), .inLoop jT, .inBlock 0, .code (Rr lc)]
def ape:LO:=[Op 1 (.box (.t 0)),Mc 2 (.con (.slice none 0 0))]
def apd:LO:=[Mc 3 (.con (.slice none 0 0))]
def apc:LO:=[Fa 10 0 1,Ld 11 10,Ln 12 0 11,Mc 13 (.int .i64 0)]
def apb:LO:=[Bi 14 .lss 13 12]
def apa:LO:=[Mv 15 13,Mv 4 15]
def ao9:LO:=[Fa 16 0 1,Ld 17 16,Mv 18 4,Ia 19 25 17 18,Fa 20 5 19,Fa 21 4 20,Ld 22 21,Ln 23 0 22,Mc 24 (.int .i64 0)]
def ao8:LO:=[Bi 25 .lss 24 23]
def ao7:LO:=[Mv 26 24,Mv 5 26]
def ao6:LO:=[Mv 27 4,Bc 28 .add 27 1,Mv 6 28]
def ao5:LO:=[Mv 29 6,Fa 30 0 1,Ld 31 30,Ln 32 0 31,Bi 33 .lss 29 32]
def abf:LO:=[Fa 36 0 1,Ld 37 36,Mv 38 6,Ia 39 25 37 38,Fa 40 5 39,Fa 41 4 40,Ld 42 41,Ln 43 0 42,Mc 44 (.int .i64 0)]
def abe:LO:=[Bi 45 .lss 44 43]
def abd:LO:=[Mv 46 44,Mv 7 46]
def abc:LO:=[Fa 47 0 1,Ld 48 47,Mv 49 4,Af [1] (Ia 50 25 48 49),Fa 51 5 50,Fa 52 4 51,Af [3, 1] (Ld 53 52),Mv 54 5,Af [6, 3, 1] (Ia 55 11 53 54),Af [8, 6, 3, 1] (Ls 56 11 55),Fa 57 0 1,Ld 58 57,Mv 59 6,Af [11] (Ia 60 25 58 59),Fa 61 5 60,Fa 62 4 61,Af [13, 11] (Ld 63 62),Mv 64 7,Af [16, 13, 11] (Ia 65 11 63 64),Af [18, 16, 13, 11] (Ls 66 11 65),Op 8 (.alloc (.agg mQ)),Op 9 (.alloc (.agg mQ)),
 Af [9, 20, 21, 8, 6, 3, 1] (St 11 8 56),Af [19, 22, 18, 16, 13, 11, 9, 20, 21, 8, 6, 3, 1] (St 11 9 66)]
def abb:LO:=[Fa 67 0 1,Ld 68 67,Mv 69 4,Ia 70 25 68 69,Fa 71 4 70,Ld 72 71,Mv 73 72,Gt 73 (Fa 74 0 1),Gt 73 (Ld 75 74),Gt 73 (Mv 76 6),Gt 73 (Ia 77 25 75 76),Gt 73 (Fa 78 4 77),Gt 73 (Ld 79 78),Pa 80 73 79,Mv 81 80,Gt 81 (Fa 82 2 8),Gt 81 (Ld 83 82),Gt 81 (Fa 84 3 9),Gt 81 (Ld 85 84),Gt 81 (Bi 86 .eql 83 85),Pa 87 81 86,Mv 88 87,Gt 88 (Fa 89 3 8),Gt 88 (Ld 90 89),Gt 88 (Fa 91 2 9),Gt 88 (Ld 92 91),
 Gt 88 (Bi 93 .eql 90 92),Pa 94 88 93,Mv 95 94,Gt 95 (Mv 96 3),Gt 95 (Mv 97 4),Gt 95 (Mv 98 5),Gt 95 (Ct 99 425 [96, 97, 98]),Gt 95 (Un 100 .not 99),Pa 101 95 100,Mv 102 101,Gt 102 (Mv 103 3),Gt 102 (Mv 104 6),Gt 102 (Mv 105 7),Gt 102 (Ct 106 425 [103, 104, 105]),Gt 102 (Un 107 .not 106),Pa 108 102 107]
def aba:LO:=[Mv 109 3,Mv 110 4,Mv 111 6,Mv 112 5,Mv 113 7,Op 114 (.build J4 [(0, 1), (1, 1), (2, 1), (3, 1)] [(.t 110), (.t 111), (.t 112), (.t 113)]),Op 115 (.bsl 5 J4 1 [0] [(.t 114)]),Ap 116 5 40 109 115,Mv 3 116]
def aa9:LO:=[Bc 117 .add 44 1,Mv 44 117]
def AE:ACode:=(Sr abe (Sq (Cx 45 6) (Sq (Bk 7 (Sr abd (Sq (Rd abc) (Sr abb (Cn 108 (Rg aba) Sk))))) (Rg aa9))))
def Jb:LO:=[Mv 34 6,Bc 35 .add 34 1,Mv 6 35]
def qE:ACode:=(Sq (Sr ao5 (Cx 33 4)) (Sq (Bk 5 (Sr abf (Bl 6 AE))) (Rg Jb)))
def ur:LO:=[Bc 118 .add 24 1,Mv 24 118]
def mo:ACode:=(Sr ao8 (Sq (Cx 25 2) (Sq (Bk 3 (Sr ao7 (Sr ao6 (Bl 4 qE)))) (Rg ur))))
def oC:LO:=[Bc 119 .add 13 1,Mv 13 119]
def jS:ACode:=(Sr apb (Sq (Cx 14 0) (Sq (Bk 1 (Sr apa (Sr ao9 (Bl 2 mo)))) (Rg oC))))
def k9:LO:=[Mv 120 3,Mv 2 120]
def f390 : AFunc := ⟨121, 1, false, [.t 2], (Sr ape (Sr apd (Sq (Sr apc (Bl 0 jS)) (Rr k9))))⟩
def wd:LI:=[.inLoop jS, .inBlock 0, .code (Rr k9)]
def we:LI:=[.inLoop mo, .inBlock 2, .inBlock 1, .code (Rg oC), .inLoop jS, .inBlock 0, .code (Rr k9)]
def wg:LI:=[.inLoop qE, .inBlock 4, .inBlock 3, .code (Rg ur), .inLoop mo, .inBlock 2, .inBlock 1, .code (Rg oC), .inLoop jS, .inBlock 0, .code (Rr k9)]
def NL:LI:=[.inLoop AE, .inBlock 6, .inBlock 5, .code (Rg Jb), .inLoop qE, .inBlock 4, .inBlock 3, .code (Rg ur), .inLoop mo, .inBlock 2, .inBlock 1, .code (Rg oC), .inLoop jS, .inBlock 0, .code (Rr k9)]
def ao4:LO:=[Op 1 (.box (.t 0)),Mc 2 (.bool false)]
def ao3:LO:=[Fa 5 0 1,Ld 6 5,Ln 7 1 6,Bc 8 .gtr 7 100,Mv 9 8,Gf 9 (Fa 10 1 1),Gf 9 (Fa 11 1 10),Gf 9 (Ld 12 11),Gf 9 (Ln 13 0 12),Gf 9 (Bc 14 .gtr 13 24),Po 15 9 14,Mv 16 15,Gf 16 (Fa 17 1 1),Gf 16 (Fa 18 2 17),Gf 16 (Ld 19 18),Gf 16 (Ln 20 0 19),Gf 16 (Bc 21 .gtr 20 24),Po 22 16 21,Mv 23 22,Gf 23 (Fa 24 22 1),Gf 23 (Ld 25 24),Gf 23 (Ln 26 0 25),Gf 23 (Bc 27 .gtr 26 24),Po 28 23 27,Mv 29 28,Gf 29 (Fa 30 23 1),
 Gf 29 (Ld 31 30),Gf 29 (Ln 32 0 31),Gf 29 (Bc 33 .gtr 32 24),Po 34 29 33,Mv 35 34,Gf 35 (Fa 36 24 1),Gf 35 (Ld 37 36),Gf 35 (Ln 38 0 37),Gf 35 (Bc 39 .gtr 38 24),Po 40 35 39]
def ao2:LO:=[Mc 2 (.bool false)]
def ao1:LO:=[Fa 41 5 1,Fa 42 4 41,Ld 43 42,Ln 44 0 43,Bc 45 .gtr 44 24,Mv 46 45,Gf 46 (Fa 47 5 1),Gf 46 (Fa 48 5 47),Gf 46 (Ld 49 48),Gf 46 (Ln 50 0 49),Gf 46 (Bc 51 .gtr 50 40),Po 52 46 51]
def ao0:LO:=[Mc 2 (.bool false)]
def aoZ:LO:=[Fa 53 22 1,Ld 54 53,Ln 55 0 54,Mc 56 (.int .i64 0)]
def aoY:LO:=[Bi 57 .lss 56 55]
def aoX:LO:=[Mv 58 56,Mv 3 58]
def aoW:LO:=[Fa 59 22 1,Ld 60 59,Mv 61 3,Ia 62 5 60 61,Fa 63 2 62,Ld 64 63,Ln 65 1 64,Bc 66 .gtr 65 100]
def aoV:LO:=[Mc 2 (.bool false)]
def aa8:LO:=[Bc 67 .add 56 1,Mv 56 67]
def AB:ACode:=(Sr aoY (Sq (Cx 57 0) (Sq (Bk 1 (Sr aoX (Sr aoW (Ci 66 (Rr aoV))))) (Rg aa8))))
def Ja:LO:=[Fa 68 5 1,Fa 69 4 68,Ld 70 69,Ln 71 0 70,Mc 72 (.int .i64 0)]
def aa7:LO:=[Bi 73 .lss 72 71]
def aa6:LO:=[Mv 74 72,Mv 4 74]
def aa5:LO:=[Fa 75 5 1,Fa 76 4 75,Ld 77 76,Mv 78 4,Ia 79 11 77 78,Fa 80 7 79,Ld 81 80,Ln 82 1 81,Bc 83 .gtr 82 100,Mv 84 83,Gf 84 (Fa 85 5 1),Gf 84 (Fa 86 4 85),Gf 84 (Ld 87 86),Gf 84 (Mv 88 4),Gf 84 (Ia 89 11 87 88),Gf 84 (Fa 90 8 89),Gf 84 (Ld 91 90),Gf 84 (Ln 92 1 91),Gf 84 (Bc 93 .gtr 92 100),Po 94 84 93]
def aa4:LO:=[Mc 2 (.bool false)]
def aa3:LO:=[Bc 95 .add 72 1,Mv 72 95]
def qD:ACode:=(Sr aa7 (Sq (Cx 73 2) (Sq (Bk 3 (Sr aa6 (Sr aa5 (Ci 94 (Rr aa4))))) (Rg aa3))))
def uq:LO:=[Fa 96 5 1,Fa 97 6 96,Ls 98 4 97,Ct 99 435 [98],Bc 100 .leq 99 400,Mv 2 100]
def f395 : AFunc := ⟨101, 1, false, [.t 2], (Sr ao4 (Sq (Sr ao3 (Ci 40 (Rr ao2))) (Sq (Sr ao1 (Ci 52 (Rr ao0))) (Sq (Sr aoZ (Bl 0 AB)) (Sq (Sr Ja (Bl 2 qD)) (Rr uq))))))⟩
def NJ:LI:=[.inLoop AB, .inBlock 0, .code (Sq (Sr Ja (Bl 2 qD)) (Rr uq))]
def NI:LI:=[.inLoop qD, .inBlock 2, .code (Rr uq)]
def apN:LO:=[Op 2 (.alloc (.agg zz6)),Mc 3 (.int .i64 0),Mc 4 (.int .i64 0)]
def apM:LO:=[Mv 18 0,Ln 19 1 18,Bc 20 .gtr 19 65536]
def apL:LO:=[Op 21 (.build zz6 [] []),St 2 2 21,Mc 3 (.int .i64 0),Mc 4 (.int .i64 4)]
def apK:LO:=[Mv 23 0,Ct 24 416 [23],Mv 22 24,Ex 25 22 0,Ex 26 22 1,Mv 5 25,Mv 6 26]
def apJ:LO:=[Op 27 (.build [.con (.slice none 0 0), .con (.slice none 0 0), .int .i64 0] [(2, 1)] [(.c (.int .i64 (-1)))]),Op 28 (.box (.t 27)),Mv 7 28]
def apI:LO:=[Mc 8 (.int .i64 0)]
def apH:LO:=[Mv 29 8,Mv 30 5,Ln 31 0 30,Bi 32 .lss 29 31]
def apG:LO:=[Mv 35 8,Mv 36 5,Ln 37 0 36,Bc 38 .sub 37 1,Bi 39 .eql 35 38,Mv 40 39,Gt 40 (Mv 41 6),Gt 40 (Un 42 .not 41),Pa 43 40 42]
def apF:LO:=[Op 44 (.build zz6 [] []),Mv 45 8,Bc 46 .add 45 1,St 2 2 44,Mv 3 46,Mc 4 (.int .i64 2)]
def apE:LO:=[Mv 48 7,Mv 49 5,Mv 50 8,Ia 51 1 49 50,Ld 52 51,Ct 53 417 [48, 52],Mv 47 53,Ex 54 47 0,Ex 55 47 1,Mv 9 54,Mv 10 55]
def abD:LO:=[Mv 56 10,Bc 57 .neq 56 0]
def abC:LO:=[Op 58 (.build zz6 [] []),Mv 59 8,Bc 60 .add 59 1,Mv 61 10,St 2 2 58,Mv 3 60,Mv 4 61]
def abB:LO:=[Mv 62 9,Bc 63 .eql 62 0]
def abA:LO:=[Mv 64 5,Mv 65 8,Bc 66 .add 65 1,Op 67 (.slc 1 (.t 64) (some (.t 66)) none none),Mv 11 67]
def abz:LO:=[Mv 68 6,Un 69 .not 68]
def aby:LO:=[Mv 70 11,Mv 71 11,Ln 72 0 71,Bc 73 .sub 72 1,Op 74 (.slc 1 (.t 70) none (some (.t 73)) none),Mv 11 74]
def abx:LO:=[Mv 75 11,Mv 76 9,Mv 77 11,Ln 78 0 77,Op 79 (.minmax false [(.t 76), (.t 78)]),Op 80 (.slc 1 (.t 75) none (some (.t 79)) none),Mv 11 80]
def abw:LO:=[Mc 12 (.str [])]
def abv:LO:=[Mv 81 11,Ln 82 0 81,Mc 83 (.int .i64 0)]
def abu:LO:=[Bi 84 .lss 83 82]
def abt:LO:=[Ia 85 1 81 83,Ld 86 85,Mv 14 86]
def abs:LO:=[Mv 87 12,Mv 88 14,Op 89 (.bin .add (.t 88) (.c (.str [10]))),Bi 90 .add 87 89,Mv 12 90]
def abr:LO:=[Bc 91 .add 83 1,Mv 83 91]
def AH:ACode:=(Sr abu (Sq (Cx 84 2) (Sq (Bk 3 (Sr abt (Rg abs))) (Rg abr))))
def Jp:LO:=[Mv 93 12,Ct 94 418 [93],Mv 92 94,Ex 95 92 0,Ex 96 92 1,Ex 97 92 2,Op 15 (.alloc (.agg J3)),St 4 15 95,Mv 16 96,Mv 10 97]
def Jo:LO:=[Mv 99 10,Bc 100 .neq 99 0,Mv 101 100,Gt 101 (Mv 102 16),Gt 101 (Mv 103 11),Gt 101 (Ln 104 0 103),Gt 101 (Bi 105 .leq 102 104),Gt 101 (Mv 106 105),Gf 106 (Mv 107 11),Gf 106 (Ln 108 0 107),Gf 106 (Mv 109 9),Gf 106 (Bi 110 .eql 108 109),Gt 101 (Po 111 106 110),Pa 112 101 111,Mv 98 112]
def Jn:LO:=[Op 113 (.build zz6 [] []),Mv 114 8,Bc 115 .add 114 1,Mv 116 16,Bi 117 .add 115 116,Mv 118 10,St 2 2 113,Mv 3 117,Mv 4 118]
def Jm:LO:=[Mv 120 11,Ln 121 0 120,Mv 122 9,Bi 123 .lss 121 122,Mv 124 123,Gt 124 (Mv 125 6),Gt 124 (Un 126 .not 125),Pa 127 124 126,Mv 119 127]
def Jl:LO:=[Op 128 (.build zz6 [] []),Mv 129 5,Ln 130 0 129,St 2 2 128,Mv 3 130,Mc 4 (.int .i64 2)]
def Jk:LO:=[Mv 132 11,Ln 133 0 132,Mv 134 9,Bi 135 .lss 133 134,Mv 131 135]
def Ji:LO:=[Op 136 (.build zz6 [] []),Mv 137 5,Ln 138 0 137,Bc 139 .add 138 1,St 2 2 136,Mv 3 139,Mc 4 (.int .i64 3)]
def Jh:LO:=[Mv 140 7,Ct 141 419 [140],Ls 142 4 15,Nc 143 141,Fa 144 5 143,Fa 145 6 144,Af [1, 2] (St 4 145 142)]
def Jg:LO:=[Mv 146 8,Mv 147 9,Bi 148 .add 146 147,Mv 8 148]
def Jf:LO:=[Mv 33 8,Bc 34 .add 33 1,Mv 8 34]
def qG:ACode:=(Sq (Sr apH (Cx 32 0)) (Sq (Bk 1 (Sq (Sr apG (Ci 43 (Rr apF))) (Sr apE (Sq (Sr abD (Ci 57 (Rr abC))) (Sq (Sr abB (Cn 63 (Xt 1) Sk)) (Sr abA (Sq (Sr abz (Cn 69 (Rg aby) Sk)) (Sr abx (Sr abw (Sq (Sr abv (Bl 2 AH)) (Sr Jp (Sq (Bk 4 (Sr Jo (Cn 98 (Rr Jn) (Sr Jm (Cn 119 (Rr Jl) (Sr Jk (Ci 131 (Rr Ji)))))))) (Sq (Rd Jh) (Rg Jg)))))))))))))) (Rg Jf)))
def uA:LO:=[Mv 149 7,Nc 150 149,Fa 151 2 150,Ld 152 151,Bc 153 .eql 152 8]
def uz:LO:=[Op 154 (.build zz6 [] []),Mv 155 5,Ln 156 0 155,Bc 157 .add 156 1,St 2 2 154,Mv 3 157,Mc 4 (.int .i64 3)]
def uy:LO:=[Mv 158 7,Nc 159 158,Fa 160 0 159,Ls 161 2 160,Ct 162 379 [161],Mv 17 162]
def ux:LO:=[Mv 163 17,Bc 164 .neq 163 0]
def uw:LO:=[Op 165 (.build zz6 [] []),Mv 166 17,St 2 2 165,Mc 3 (.int .i64 0),Mv 4 166]
def uv:LO:=[Mv 167 7,Nc 168 167,Fa 169 0 168,Ls 170 2 169,St 2 2 170,Mc 3 (.int .i64 0),Mc 4 (.int .i64 0)]
def f383 : AFunc := ⟨171, 1, false, [.cell 2 (some 2), .t 3, .t 4], (Sr apN (Sq (Sr apM (Ci 20 (Rr apL))) (Sr apK (Sr apJ (Sq (Sr apI (Bl 0 qG)) (Sq (Sr uA (Ci 153 (Rr uz))) (Sq (Sr uy (Sr ux (Ci 164 (Rr uw)))) (Rr uv))))))))⟩
def apY:LO:=[Op 1 (.box (.t 0)),Mc 2 (.str []),Mc 3 (.int .i64 0)]
def apX:LO:=[Ls 15 2 1,Ct 16 379 [15],Mv 4 16]
def apW:LO:=[Mv 17 4,Bc 18 .neq 17 0]
def apV:LO:=[Mv 19 4,Mc 2 (.str []),Mv 3 19]
def apU:LO:=[Op 20 (.build zz1 [] []),Op 21 (.box (.t 20)),Mv 5 21]
def apT:LO:=[Fa 22 0 1,Ld 23 22,Ln 24 0 23,Mc 25 (.int .i64 0)]
def apS:LO:=[Bi 26 .lss 25 24]
def apR:LO:=[Ia 27 25 23 25,Ls 28 25 27,Op 7 (.alloc (.agg zz4)),St 25 7 28]
def apQ:LO:=[Mv 29 5,Ls 30 25 7,Ct 31 402 [29, 30]]
def apO:LO:=[Mv 32 5,Ls 33 25 7,Ct 34 403 [32, 33]]
def abV:LO:=[Fa 35 4 7,Ld 36 35]
def abU:LO:=[Mv 37 5,Fa 38 5 7,Ls 39 15 38,Ct 40 404 [37, 39]]
def abT:LO:=[Fa 42 5 7,Fa 43 6 42,Ls 44 4 43,Ct 45 405 [44],Mv 41 45,Ex 46 41 0,Ex 47 41 1,Mv 8 46,Mv 9 47]
def abS:LO:=[Mv 48 9,Bc 49 .neq 48 0]
def abR:LO:=[Mv 50 9,Mc 2 (.str []),Mv 3 50]
def abQ:LO:=[Mv 51 8,Op 52 (.bin .neq (.t 51) (.c (.str [])))]
def abP:LO:=[Mv 53 5,Mv 54 8,Ct 55 407 [54],Ct 56 337 [55],Op 57 (.bsl 1 zz1 2 [0, 1] [(.c (.str [112, 111, 108, 105, 99, 105, 101, 115])), (.t 56)]),Ct 58 406 [53, 57]]
def abO:LO:=[Mv 59 5,Nc 60 59,Fa 61 0 60,Ld 62 61,Mv 63 8,Bi 64 .add 62 63,Nc 65 59,Fa 66 0 65,St 1 66 64]
def abN:LO:=[Bc 67 .add 25 1,Mv 25 67]
def AQ:ACode:=(Sr apS (Sq (Cx 26 0) (Sq (Bk 1 (Sr apR (Sr apQ (Sr apO (Sq (Sr abV (Cn 36 (Rg abU) Sk)) (Sr abT (Sq (Sr abS (Ci 49 (Rr abR))) (Sr abQ (Cn 52 (Sr abP (Rg abO)) Sk))))))))) (Rg abN))))
def Jt:LO:=[Fa 68 1 1,Ld 69 68,Ln 70 0 69,Mc 71 (.int .i64 0)]
def abM:LO:=[Bi 72 .lss 71 70]
def abL:LO:=[Ia 73 2 69 71,Ls 74 2 73,Op 11 (.alloc (.agg sS)),St 2 11 74]
def abK:LO:=[Op 75 (.bsl 1 zz1 1 [0] [(.c (.str [108, 105, 110, 107]))]),Fa 76 1 11,Ld 77 76,Op 78 (.bsl 1 sR 1 [0] [(.t 77)]),Ct 79 408 [75, 78],Mv 12 79]
def abJ:LO:=[Fa 80 0 11,Ld 81 80,Ln 82 0 81,Mc 83 (.int .i64 0)]
def abH:LO:=[Bi 84 .lss 83 82]
def abG:LO:=[Ia 85 2 81 83,Ls 86 2 85,Op 14 (.alloc (.agg zz7)),St 2 14 86]
def abF:LO:=[Mv 87 12,Fa 88 0 1,Ld 89 88,Fa 90 0 14,Ld 91 90,Af [2, 4] (Ia 92 25 89 91),Fa 93 0 92,Af [5, 2, 4] (Ld 94 93),Op 95 (.bin .add (.t 94) (.c (.str [58]))),Fa 96 1 14,Ld 97 96,Af [10] (Ct 98 337 [97]),Bi 99 .add 95 98,Af [11, 7, 5, 2, 4, 10] (Op 100 (.bsl 1 zz1 1 [0] [(.t 99)])),Af [13, 11, 7, 5, 2, 4, 10] (Ap 101 1 16 87 100),Mv 12 101]
def abE:LO:=[Bc 102 .add 83 1,Mv 83 102]
def AP:ACode:=(Sr abH (Sq (Cx 84 4) (Sq (Bk 5 (Sr abG (Rd abF))) (Rg abE))))
def Js:LO:=[Mv 103 5,Mv 104 12,Ct 105 406 [103, 104]]
def Jq:LO:=[Bc 106 .add 71 1,Mv 71 106]
def mr:ACode:=(Sr abM (Sq (Cx 72 2) (Sq (Bk 3 (Sr abL (Sr abK (Sq (Sr abJ (Bl 4 AP)) (Rg Js))))) (Rg Jq))))
def oH:LO:=[Mv 107 5,Nc 108 107,Fa 109 0 108,Ld 110 109,Ln 111 1 110,Bc 112 .gtr 111 65536]
def oG:LO:=[Mc 2 (.str []),Mc 3 (.int .i64 4)]
def oE:LO:=[Mv 113 5,Nc 114 113,Fa 115 0 114,Ld 116 115,Mv 2 116,Mc 3 (.int .i64 0)]
def f381 : AFunc := ⟨117, 1, false, [.t 2, .t 3], (Sr apY (Sq (Sr apX (Sr apW (Ci 18 (Rr apV)))) (Sr apU (Sq (Sr apT (Bl 0 AQ)) (Sq (Sr Jt (Bl 2 mr)) (Sq (Sr oH (Ci 112 (Rr oG))) (Rr oE)))))))⟩
def apD:LO:=[Op 2 (.box (.t 0)),Mc 4 (.int .i64 0),Mc 5 (.bool false)]
def apC:LO:=[Fa 8 0 2,Ld 9 8,Ln 10 0 9,Mc 11 (.int .i64 0)]
def apB:LO:=[Bi 12 .lss 11 10]
def apA:LO:=[Mv 13 11,Ia 14 25 9 11,Ls 15 25 14,Op 7 (.alloc (.agg zz4)),Mv 6 13,St 25 7 15]
def apz:LO:=[Fa 16 0 7,Ld 17 16,Mv 18 1,Bi 19 .eql 17 18]
def apy:LO:=[Mv 20 6,Mv 4 20,Mc 5 (.bool true)]
def apx:LO:=[Bc 21 .add 11 1,Mv 11 21]
def Je:ACode:=(Sr apB (Sq (Cx 12 0) (Sq (Bk 1 (Sr apA (Sr apz (Ci 19 (Rr apy))))) (Rg apx))))
def NS:LO:=[Mc 4 (.int .i64 0),Mc 5 (.bool false)]
def f386 : AFunc := ⟨22, 2, false, [.t 4, .t 5], (Sr apD (Sq (Sr apC (Bl 0 Je)) (Rr NS)))⟩
def aoU:LO:=[Op 3 (.box (.t 1)),Mc 4 (.int .i64 0)]
def aoT:LO:=[Fa 12 0 3,Ld 13 12,Ct 14 436 [13],Un 15 .not 14]
def aoR:LO:=[Mc 4 (.int .i64 1)]
def aoQ:LO:=[Mv 16 0,Ln 17 0 16,Mc 18 (.int .i64 0)]
def aoP:LO:=[Bi 19 .lss 18 17]
def aoO:LO:=[Ia 20 25 16 18,Ls 21 25 20,Op 6 (.alloc (.agg zz4)),St 25 6 21]
def aoN:LO:=[Fa 22 0 6,Ld 23 22,Fa 24 0 3,Ld 25 24,Bi 26 .eql 23 25]
def aoM:LO:=[Mc 4 (.int .i64 7)]
def aoL:LO:=[Bc 27 .add 18 1,Mv 18 27]
def IW:ACode:=(Sr aoP (Sq (Cx 19 0) (Sq (Bk 1 (Sr aoO (Sr aoN (Ci 26 (Rr aoM))))) (Rg aoL))))
def I8:LO:=[Fa 28 1 3,Ls 29 3 28,Ct 30 437 [29],Mv 7 30]
def I7:LO:=[Mv 31 7,Bc 32 .neq 31 0]
def I6:LO:=[Mv 33 7,Mv 4 33]
def IY:LO:=[Mv 34 0,Ln 35 0 34,Mc 36 (.int .i64 0)]
def aa2:LO:=[Bi 37 .lss 36 35]
def aa1:LO:=[Ia 38 25 34 36,Ls 39 25 38,Op 9 (.alloc (.agg zz4)),St 25 9 39]
def aa0:LO:=[Fa 40 1 9,Fa 41 0 40,Ld 42 41,Fa 43 1 3,Fa 44 0 43,Ld 45 44,Bi 46 .eql 42 45]
def aaZ:LO:=[Mc 4 (.int .i64 7)]
def aaY:LO:=[Bc 47 .add 36 1,Mv 36 47]
def qC:ACode:=(Sr aa2 (Sq (Cx 37 2) (Sq (Bk 3 (Sr aa1 (Sr aa0 (Ci 46 (Rr aaZ))))) (Rg aaY))))
def uo:LO:=[Ls 48 25 3,Ct 49 438 [48],Mv 10 49]
def um:LO:=[Mv 50 10,Bc 51 .neq 50 0]
def ul:LO:=[Mv 52 10,Mv 4 52]
def uk:LO:=[Fa 53 5 3,Fa 54 6 53,Ls 55 4 54,Fa 56 22 3,Ld 57 56,Ct 58 439 [55, 57],Mv 11 58]
def uj:LO:=[Mv 59 11,Bc 60 .neq 59 0]
def ui:LO:=[Mv 61 11,Mv 4 61]
def uh:LO:=[Ls 62 25 3,Ct 63 440 [62],Mv 4 63]
def f396 : AFunc := ⟨64, 2, false, [.t 4], (Sr aoU (Sq (Sr aoT (Ci 15 (Rr aoR))) (Sq (Sr aoQ (Bl 0 IW)) (Sq (Sr I8 (Sr I7 (Ci 32 (Rr I6)))) (Sq (Sr IY (Bl 2 qC)) (Sq (Sr uo (Sr um (Ci 51 (Rr ul)))) (Sq (Sr uk (Sr uj (Ci 60 (Rr ui)))) (Rr uh))))))))⟩
def aoK:LO:=[Op 3 (.box (.t 0)),Op 4 (.box (.t 1)),Mc 6 (.int .i64 0)]
def aoJ:LO:=[Fa 15 0 4,Ld 16 15,Ln 17 0 16,Bc 18 .lss 17 2]
def aoI:LO:=[Mc 6 (.int .i64 1)]
def aoH:LO:=[Fa 19 1 4,Ld 20 19,Bc 21 .lss 20 1,Mv 22 21,Gf 22 (Fa 23 1 4),Gf 22 (Ld 24 23),Gf 22 (Bc 25 .gtr 24 60),Po 26 22 25]
def aoG:LO:=[Mc 6 (.int .i64 5)]
def aoF:LO:=[Ls 27 2 3,Ls 28 2 4,Mv 29 2,Ct 30 441 [27, 28, 29],Mv 7 30]
def aoE:LO:=[Mv 31 7,Bc 32 .neq 31 0]
def aoD:LO:=[Mv 33 7,Mv 6 33]
def aoC:LO:=[Ls 35 2 3,Fa 36 0 4,Ld 37 36,Af [2] (Op 38 (.iadr 2 (.t 37) (.c (.int .i64 0)))),Af [3, 2] (Ls 39 2 38),Af [0, 4, 3, 2] (Ct 40 426 [35, 39]),Mv 34 40,Ex 41 34 0,Ex 42 34 1,Op 8 (.alloc (.agg zz3)),Af [9, 5, 0, 4, 3, 2] (St 9 8 41),Mv 9 42]
def aoB:LO:=[Mc 10 (.bool false)]
def aaX:LO:=[Fa 43 0 4,Ld 44 43,Ln 45 0 44,Mc 46 (.int .i64 0)]
def aaW:LO:=[Bi 47 .lss 46 45]
def aaV:LO:=[Ia 48 2 44 46,Ls 49 2 48,Op 12 (.alloc (.agg zz7)),St 2 12 49]
def aaU:LO:=[Ls 51 2 3,Ls 52 2 12,Ct 53 426 [51, 52],Mv 50 53,Ex 54 50 0,Ex 55 50 1,Op 13 (.alloc (.agg zz3)),St 9 13 54,Mv 14 55]
def aaT:LO:=[Fa 56 0 13,Ld 57 56,Bc 58 .neq 57 2,Mv 59 58,Gt 59 (Fa 60 0 4),Gt 59 (Ld 61 60),Gt 59 (Ln 62 0 61),Gt 59 (Bc 63 .gtr 62 2),Pa 64 59 63]
def aaS:LO:=[Mc 6 (.int .i64 15)]
def aaR:LO:=[Mv 65 10,Mv 66 65,Gf 66 (Fa 67 0 13),Gf 66 (Ld 68 67),Gf 66 (Fa 69 0 8),Gf 66 (Ld 70 69),Gf 66 (Bi 71 .neq 68 70),Po 72 66 71,Mv 73 72,Gf 73 (Fa 74 1 13),Gf 73 (Ls 75 2 74),Gf 73 (Fa 76 1 8),Gf 73 (Ls 77 2 76),Gf 73 (Op 78 (.eqs [.int, .int] true (.t 75) (.t 77))),Po 79 73 78,Mv 80 79,Gf 80 (Fa 81 4 13),Gf 80 (Ld 82 81),Gf 80 (Fa 83 4 8),Gf 80 (Ld 84 83),Gf 80 (Bi 85 .neq 82 84),Po 86 80 85,
 Mv 87 86,Gf 87 (Fa 88 7 13),Gf 87 (Ld 89 88),Gf 87 (Fa 90 7 8),Gf 87 (Ld 91 90),Gf 87 (Bi 92 .neq 89 91),Po 93 87 92,Mv 94 93,Gf 94 (Fa 95 8 13),Gf 94 (Ld 96 95),Gf 94 (Fa 97 8 8),Gf 94 (Ld 98 97),Gf 94 (Bi 99 .neq 96 98),Po 100 94 99,Mv 10 100]
def aaQ:LO:=[Bc 101 .add 46 1,Mv 46 101]
def AA:ACode:=(Sr aaW (Sq (Cx 47 0) (Sq (Bk 1 (Sr aaV (Sr aaU (Sq (Sr aaT (Ci 64 (Rr aaS))) (Rg aaR))))) (Rg aaQ))))
def IV:LO:=[Mv 102 10]
def IU:LO:=[Mc 6 (.int .i64 14)]
def IQ:LO:=[Mc 6 (.int .i64 0)]
def f397 : AFunc := ⟨103, 3, false, [.t 6], (Sr aoK (Sq (Sr aoJ (Ci 18 (Rr aoI))) (Sq (Sr aoH (Ci 26 (Rr aoG))) (Sq (Sr aoF (Sr aoE (Ci 32 (Rr aoD)))) (Sq (Rd aoC) (Sr aoB (Sq (Sr aaX (Bl 0 AA)) (Sq (Sr IV (Ci 102 (Rr IU))) (Rr IQ)))))))))⟩
def aoA:LO:=[Op 2 (.box (.t 0)),Mc 4 (.int .i64 0)]
def aoz:LO:=[Fa 13 0 2,Ld 14 13,Mv 15 1,Ia 16 25 14 15,Ls 17 25 16,Op 5 (.alloc (.agg zz4)),St 25 5 17]
def aoy:LO:=[Fa 18 0 5,Ld 19 18,Ct 20 442 [19],Un 21 .not 20]
def aox:LO:=[Mc 4 (.int .i64 1)]
def aow:LO:=[Ls 23 2 2,Fa 24 0 5,Ld 25 24,Ct 26 387 [23, 25],Mv 22 26,Ex 27 22 0,Ex 28 22 1,Mv 6 27,Mv 7 28]
def aov:LO:=[Mv 29 6,Mv 30 1,Bi 31 .lss 29 30]
def aou:LO:=[Mc 4 (.int .i64 7)]
def aot:LO:=[Fa 32 1 5,Ls 33 3 32,Ct 34 443 [33],Mv 8 34]
def aor:LO:=[Mv 35 8,Bc 36 .neq 35 0]
def aoq:LO:=[Mv 37 8,Mv 4 37]
def aaP:LO:=[Mv 38 1,Mc 39 (.int .i64 0)]
def aaO:LO:=[Bi 40 .lss 39 38]
def aaN:LO:=[Mv 41 39,Mv 9 41]
def aaM:LO:=[Fa 42 0 2,Ld 43 42,Mv 44 9,Af [1] (Ia 45 25 43 44),Fa 46 1 45,Fa 47 0 46,Af [3, 1] (Ld 48 47),Fa 49 1 5,Fa 50 0 49,Ld 51 50,Bi 52 .eql 48 51]
def aaL:LO:=[Mc 4 (.int .i64 7)]
def aaK:LO:=[Bc 53 .add 39 1,Mv 39 53]
def Ay:ACode:=(Sr aaO (Sq (Cx 40 0) (Sq (Bk 1 (Sr aaN (Sq (Rd aaM) (Ci 52 (Rr aaL))))) (Rg aaK))))
def IP:LO:=[Fa 54 4 5,Ld 55 54,Un 56 .not 55,Mv 57 56,Gt 57 (Fa 58 5 5),Gt 57 (Fa 59 6 58),Gt 57 (Ls 60 4 59),Gt 57 (Ct 61 444 [60]),Gt 57 (Bc 62 .neq 61 0),Pa 63 57 62]
def IM:LO:=[Mc 4 (.int .i64 1)]
def IL:LO:=[Fa 64 4 5,Ld 65 64]
def IK:LO:=[Fa 66 5 5,Ls 67 15 66,Ct 68 445 [67],Mv 8 68]
def IJ:LO:=[Mv 69 8,Bc 70 .neq 69 0]
def II:LO:=[Mv 71 8,Mv 4 71]
def IG:LO:=[Fa 72 5 5,Fa 73 2 72,Ld 74 73,Fa 75 1 5,Fa 76 0 75,Ld 77 76,Bi 78 .neq 74 77]
def IC:LO:=[Mc 4 (.int .i64 14)]
def IB:LO:=[Fa 79 5 5,Fa 80 6 79,Ls 81 4 80,Fa 82 22 5,Ld 83 82,Ct 84 446 [81, 83],Mv 8 84]
def IA:LO:=[Mv 85 8,Bc 86 .neq 85 0]
def Iy:LO:=[Mv 87 8,Mv 4 87]
def Iw:LO:=[Fa 88 23 5,Ld 89 88,Ln 90 0 89,Mc 91 (.int .i64 0)]
def aaJ:LO:=[Bi 92 .lss 91 90]
def aaI:LO:=[Mv 93 91,Mv 10 93]
def aaH:LO:=[Fa 94 23 5,Ld 95 94,Mv 96 10,Ia 97 4 95 96,Ls 98 4 97,Op 11 (.alloc (.agg sO)),St 4 11 98]
def aaG:LO:=[Fa 99 0 11,Ls 100 2 99,Ct 101 179 [100],Un 102 .not 101,Mv 103 102,Gf 103 (Fa 104 3 11),Gf 103 (Ld 105 104),Gf 103 (Bc 106 .lss 105 0),Po 107 103 106,Mv 108 107,Gf 108 (Fa 109 3 11),Gf 108 (Ld 110 109),Gf 108 (Bc 111 .gtr 110 255),Po 112 108 111]
def aaF:LO:=[Mc 4 (.int .i64 1)]
def aaE:LO:=[Bc 113 .add 91 1,Mv 91 113]
def qB:ACode:=(Sr aaJ (Sq (Cx 92 2) (Sq (Bk 3 (Sr aaI (Sr aaH (Sr aaG (Ci 112 (Rr aaF)))))) (Rg aaE))))
def ug:LO:=[Fa 114 24 5,Ld 115 114,Ln 116 0 115,Mc 117 (.int .i64 0)]
def aaD:LO:=[Bi 118 .lss 117 116]
def aaC:LO:=[Mv 119 117,Mv 12 119]
def aaB:LO:=[Fa 120 24 5,Ld 121 120,Mv 122 12,Ia 123 1 121 122,Ld 124 123,Bc 125 .lss 124 0,Mv 126 125,Gf 126 (Fa 127 24 5),Gf 126 (Ld 128 127),Gf 126 (Mv 129 12),Gf 126 (Ia 130 1 128 129),Gf 126 (Ld 131 130),Gf 126 (Bc 132 .gtr 131 255),Po 133 126 132]
def aaA:LO:=[Mc 4 (.int .i64 1)]
def aaz:LO:=[Bc 134 .add 117 1,Mv 117 134]
def mn:ACode:=(Sr aaD (Sq (Cx 118 4) (Sq (Bk 5 (Sr aaC (Sr aaB (Ci 133 (Rr aaA))))) (Rg aaz))))
def oB:LO:=[Fa 135 24 5,Ld 136 135,Ln 137 0 136,Bc 138 .neq 137 0,Mv 139 138,Gt 139 (Fa 140 24 5),Gt 139 (Ld 141 140),Gt 139 (Ln 142 0 141),Gt 139 (Bc 143 .neq 142 7),Pa 144 139 143]
def oA:LO:=[Mc 4 (.int .i64 1)]
def oz:LO:=[Mc 4 (.int .i64 0)]
def f398 : AFunc := ⟨145, 2, false, [.t 4], (Sr aoA (Sr aoz (Sq (Sr aoy (Ci 21 (Rr aox))) (Sr aow (Sq (Sr aov (Ci 31 (Rr aou))) (Sr aot (Sq (Sr aor (Ci 36 (Rr aoq))) (Sq (Sr aaP (Bl 0 Ay)) (Sq (Sr IP (Ci 63 (Rr IM))) (Sq (Sr IL (Cn 65 (Sr IK (Sq (Sr IJ (Ci 70 (Rr II))) (Sr IG (Ci 78 (Rr IC))))) Sk)) (Sr IB (Sq (Sr IA (Ci 86 (Rr Iy))) (Sq (Sr Iw (Bl 2 qB)) (Sq (Sr ug (Bl 4 mn)) (Sq (Sr oB (Ci 144 (Rr oA))) (Rr oz))))))))))))))))⟩
def NH:LI:=[.inLoop Ay, .inBlock 0, .code (Sq (Sr IP (Ci 63 (Rr IM))) (Sq (Sr IL (Cn 65 (Sr IK (Sq (Sr IJ (Ci 70 (Rr II))) (Sr IG (Ci 78 (Rr IC))))) Sk)) (Sr IB (Sq (Sr IA (Ci 86 (Rr Iy))) (Sq (Sr Iw (Bl 2 qB)) (Sq (Sr ug (Bl 4 mn)) (Sq (Sr oB (Ci 144 (Rr oA))) (Rr oz))))))))]
def NG:LI:=[.inLoop qB, .inBlock 2, .code (Sq (Sr ug (Bl 4 mn)) (Sq (Sr oB (Ci 144 (Rr oA))) (Rr oz)))]
def NF:LI:=[.inLoop mn, .inBlock 4, .code (Sq (Sr oB (Ci 144 (Rr oA))) (Rr oz))]
def aop:LO:=[Mc 2 (.bool false)]
def aoo:LO:=[Mv 5 0,Ln 6 0 5,Mc 7 (.int .i64 0)]
def aon:LO:=[Bi 8 .lss 7 6]
def aom:LO:=[Mv 9 7,Mv 3 9]
def aol:LO:=[Mv 10 3,Mc 11 (.int .i64 0)]
def aok:LO:=[Bi 12 .lss 11 10]
def aoj:LO:=[Mv 13 11,Mv 4 13]
def aoi:LO:=[Mv 14 0,Mv 15 3,Ia 16 1 14 15,Af [2] (Ld 17 16),Mv 18 0,Mv 19 4,Ia 20 1 18 19,Af [6] (Ld 21 20),Bi 22 .eql 17 21]
def aoh:LO:=[Mc 2 (.bool true)]
def aog:LO:=[Bc 23 .add 11 1,Mv 11 23]
def Ax:ACode:=(Sr aok (Sq (Cx 12 2) (Sq (Bk 3 (Sr aoj (Sq (Rd aoi) (Ci 22 (Rr aoh))))) (Rg aog))))
def Iv:LO:=[Bc 24 .add 7 1,Mv 7 24]
def qz:ACode:=(Sr aon (Sq (Cx 8 0) (Sq (Bk 1 (Sr aom (Sr aol (Bl 2 Ax)))) (Rg Iv))))
def uf:LO:=[Mc 2 (.bool false)]
def f399 : AFunc := ⟨25, 1, false, [.t 2], (Sr aop (Sq (Sr aoo (Bl 0 qz)) (Rr uf)))⟩
def wc:LI:=[.inLoop qz, .inBlock 0, .code (Rr uf)]
def ND:LI:=[.inLoop Ax, .inBlock 2, .inBlock 1, .code (Rg Iv), .inLoop qz, .inBlock 0, .code (Rr uf)]
def aof:LO:=[Op 1 (.box (.t 0)),Mc 2 (.con (.slice none 0 0))]
def aoe:LO:=[Mc 3 (.con (.slice none 0 0))]
def aod:LO:=[Fa 6 0 1,Ld 7 6,Ln 8 0 7,Mc 9 (.int .i64 0)]
def aoc:LO:=[Bi 10 .lss 9 8]
def aob:LO:=[Mv 11 9,Mv 4 11]
def aoa:LO:=[Fa 12 0 1,Ld 13 12,Mv 14 4,Ia 15 25 13 14,Fa 16 1 15,Fa 17 1 16,Ld 18 17,Ln 19 0 18,Mc 20 (.int .i64 0)]
def an9:LO:=[Bi 21 .lss 20 19]
def an8:LO:=[Mv 22 20,Mv 5 22]
def an7:LO:=[Mv 23 3,Fa 24 0 1,Ld 25 24,Mv 26 4,Ia 27 25 25 26,Fa 28 1 27,Fa 29 1 28,Ld 30 29,Mv 31 5,Ia 32 9 30 31,Fa 33 3 32,Ld 34 33,Op 35 (.bsl 1 [.int .u32 0] 1 [0] [(.t 34)]),Ap 36 1 4 23 35,Mv 3 36]
def an6:LO:=[Bc 37 .add 20 1,Mv 20 37]
def Aw:ACode:=(Sr an9 (Sq (Cx 21 2) (Sq (Bk 3 (Sr an8 (Rg an7))) (Rg an6))))
def Iu:LO:=[Bc 38 .add 9 1,Mv 9 38]
def qy:ACode:=(Sr aoc (Sq (Cx 10 0) (Sq (Bk 1 (Sr aob (Sr aoa (Bl 2 Aw)))) (Rg Iu))))
def ue:LO:=[Mv 39 3,Mv 2 39]
def f400 : AFunc := ⟨40, 1, false, [.t 2], (Sr aof (Sr aoe (Sq (Sr aod (Bl 0 qy)) (Rr ue))))⟩
def wb:LI:=[.inLoop qy, .inBlock 0, .code (Rr ue)]
def NC:LI:=[.inLoop Aw, .inBlock 2, .inBlock 1, .code (Rg Iu), .inLoop qy, .inBlock 0, .code (Rr ue)]
def an5:LO:=[Op 2 (.box (.t 0)),Mc 4 (.int .i64 0)]
def an4:LO:=[Fa 15 1 2,Ld 16 15,Mv 17 1,Ia 18 2 16 17,Ls 19 2 18,Op 5 (.alloc (.agg sS)),St 2 5 19]
def an3:LO:=[Fa 20 0 5,Ld 21 20,Ln 22 0 21,Bc 23 .lss 22 2]
def an2:LO:=[Mc 4 (.int .i64 1)]
def an1:LO:=[Fa 24 1 5,Ld 25 24,Bc 26 .lss 25 1,Mv 27 26,Gf 27 (Fa 28 1 5),Gf 27 (Ld 29 28),Gf 27 (Bc 30 .gtr 29 60),Po 31 27 30]
def an0:LO:=[Mc 4 (.int .i64 5)]
def anZ:LO:=[Ls 32 2 2,Mv 33 1,Ct 34 447 [32, 33],Mv 6 34]
def anX:LO:=[Mv 35 6,Bc 36 .neq 35 0]
def anW:LO:=[Mv 37 6,Mv 4 37]
def anV:LO:=[Ls 39 2 2,Fa 40 0 5,Ld 41 40,Af [2] (Op 42 (.iadr 2 (.t 41) (.c (.int .i64 0)))),Af [3, 2] (Ls 43 2 42),Af [0, 4, 3, 2] (Ct 44 429 [39, 43]),Mv 38 44,Ex 45 38 0,Ex 46 38 1,Op 7 (.alloc (.agg zz3)),Af [9, 5, 0, 4, 3, 2] (St 9 7 45),Mv 8 46]
def aay:LO:=[Fa 47 0 5,Ld 48 47,Ln 49 0 48,Mc 50 (.int .i64 0)]
def aax:LO:=[Bi 51 .lss 50 49]
def aaw:LO:=[Mv 52 50,Mv 9 52]
def aav:LO:=[Ls 54 2 2,Fa 55 0 5,Ld 56 55,Mv 57 9,Af [2] (Ia 58 2 56 57),Af [4, 2] (Ls 59 2 58),Af [0, 5, 4, 2] (Ct 60 429 [54, 59]),Mv 53 60,Ex 61 53 0,Ex 62 53 1,Op 10 (.alloc (.agg zz3)),Af [10, 6, 0, 5, 4, 2] (St 9 10 61),Mv 11 62]
def aau:LO:=[Fa 63 0 10,Ld 64 63,Bc 65 .neq 64 2,Mv 66 65,Gt 66 (Fa 67 0 5),Gt 66 (Ld 68 67),Gt 66 (Ln 69 0 68),Gt 66 (Bc 70 .gtr 69 2),Pa 71 66 70]
def aat:LO:=[Mc 4 (.int .i64 15)]
def aas:LO:=[Bc 72 .add 50 1,Mv 50 72]
def Au:ACode:=(Sr aax (Sq (Cx 51 0) (Sq (Bk 1 (Sr aaw (Sq (Rd aav) (Sr aau (Ci 71 (Rr aat)))))) (Rg aas))))
def Ir:LO:=[Fa 73 0 5,Ld 74 73,Ln 75 0 74,Mc 76 (.int .i64 0)]
def aar:LO:=[Bi 77 .lss 76 75]
def aaq:LO:=[Mv 78 76,Mv 12 78]
def aap:LO:=[Ls 80 2 2,Fa 81 0 5,Ld 82 81,Mv 83 12,Af [2] (Ia 84 2 82 83),Af [4, 2] (Ls 85 2 84),Af [0, 5, 4, 2] (Ct 86 429 [80, 85]),Mv 79 86,Ex 87 79 0,Ex 88 79 1,Op 13 (.alloc (.agg zz3)),Af [10, 6, 0, 5, 4, 2] (St 9 13 87),Mv 14 88]
def aao:LO:=[Fa 89 0 7,Ld 90 89,Fa 91 0 13,Ld 92 91,Bi 93 .neq 90 92,Mv 94 93,Gf 94 (Fa 95 1 7),Gf 94 (Ls 96 2 95),Gf 94 (Fa 97 1 13),Gf 94 (Ls 98 2 97),Gf 94 (Op 99 (.eqs [.int, .int] true (.t 96) (.t 98))),Po 100 94 99,Mv 101 100,Gf 101 (Fa 102 4 7),Gf 101 (Ld 103 102),Gf 101 (Fa 104 4 13),Gf 101 (Ld 105 104),Gf 101 (Bi 106 .neq 103 105),Po 107 101 106,Mv 108 107,Gf 108 (Fa 109 7 7),Gf 108 (Ld 110 109),
 Gf 108 (Fa 111 7 13),Gf 108 (Ld 112 111),Gf 108 (Bi 113 .neq 110 112),Po 114 108 113,Mv 115 114,Gf 115 (Fa 116 8 7),Gf 115 (Ld 117 116),Gf 115 (Fa 118 8 13),Gf 115 (Ld 119 118),Gf 115 (Bi 120 .neq 117 119),Po 121 115 120]
def aan:LO:=[Mc 4 (.int .i64 14)]
def aam:LO:=[Bc 122 .add 76 1,Mv 76 122]
def qx:ACode:=(Sr aar (Sq (Cx 77 2) (Sq (Bk 3 (Sr aaq (Sq (Rd aap) (Sr aao (Ci 121 (Rr aan)))))) (Rg aam))))
def ud:LO:=[Mc 4 (.int .i64 0)]
def f401 : AFunc := ⟨123, 2, false, [.t 4], (Sr an5 (Sr an4 (Sq (Sr an3 (Ci 23 (Rr an2))) (Sq (Sr an1 (Ci 31 (Rr an0))) (Sr anZ (Sq (Sr anX (Ci 36 (Rr anW))) (Sq (Rd anV) (Sq (Sr aay (Bl 0 Au)) (Sq (Sr Ir (Bl 2 qx)) (Rr ud))))))))))⟩
def NB:LI:=[.inLoop Au, .inBlock 0, .code (Sq (Sr Ir (Bl 2 qx)) (Rr ud))]
def NA:LI:=[.inLoop qx, .inBlock 2, .code (Rr ud)]
def amQ:LO:=[Mc 6 (.bool false)]
def amP:LO:=[Mv 8 0,Ln 9 0 8,Mc 10 (.int .i64 0)]
def amO:LO:=[Bi 11 .lss 10 9]
def amN:LO:=[Mv 12 10,Mv 7 12]
def amM:LO:=[Mv 13 0,Mv 14 7,Ia 15 5 13 14,Fa 16 0 15,Ld 17 16,Mv 18 1,Bi 19 .eql 17 18,Mv 20 19,Gt 20 (Mv 21 0),Gt 20 (Mv 22 7),Gt 20 (Ia 23 5 21 22),Gt 20 (Fa 24 2 23),Gt 20 (Ld 25 24),Gt 20 (Mv 26 2),Gt 20 (Bi 27 .eql 25 26),Pa 28 20 27,Mv 29 28,Gf 29 (Mv 30 0),Gf 29 (Mv 31 7),Gf 29 (Ia 32 5 30 31),Gf 29 (Fa 33 1 32),Gf 29 (Ld 34 33),Gf 29 (Mv 35 1),Gf 29 (Bi 36 .eql 34 35),Gf 29 (Mv 37 36),Gt 37 (Mv 38 0),
 Gt 37 (Mv 39 7),Gt 37 (Ia 40 5 38 39),Gt 37 (Fa 41 3 40),Gt 37 (Ld 42 41),Gt 37 (Mv 43 2),Gt 37 (Bi 44 .eql 42 43),Gf 29 (Pa 45 37 44),Po 46 29 45]
def amL:LO:=[Mc 6 (.bool true)]
def amK:LO:=[Bc 47 .add 10 1,Mv 10 47]
def Ib:ACode:=(Sr amO (Sq (Cx 11 0) (Sq (Bk 1 (Sr amN (Sr amM (Ci 46 (Rr amL))))) (Rg amK))))
def Nv:LO:=[Mc 6 (.bool false)]
def f425 : AFunc := ⟨48, 3, false, [.t 6], (Sr amQ (Sq (Sr amP (Bl 0 Ib)) (Rr Nv)))⟩
def Qq:LI:=[.inLoop Ib, .inBlock 0, .code (Rr Nv)]
def amv:LO:=[Op 1 (.box (.t 0)),Mc 2 (.int .i64 0)]
def amu:LO:=[Fa 14 0 1,Ld 15 14,Ln 16 0 15,Fa 17 1 1,Ld 18 17,Ln 19 0 18,Bi 20 .add 16 19,Fa 21 2 1,Ld 22 21,Ln 23 0 22,Bi 24 .add 20 23,Fa 25 3 1,Ld 26 25,Ln 27 0 26,Bi 28 .add 24 27,Mv 3 28]
def amt:LO:=[Fa 29 0 1,Ld 30 29,Ln 31 0 30,Mc 32 (.int .i64 0)]
def ams:LO:=[Bi 33 .lss 32 31]
def amr:LO:=[Ia 34 2 30 32,Ls 35 2 34,Op 5 (.alloc (.agg zz2)),St 2 5 35]
def amq:LO:=[Mv 36 3,Fa 37 1 5,Ld 38 37,Ln 39 0 38,Bi 40 .add 36 39,Mv 3 40]
def amp:LO:=[Bc 41 .add 32 1,Mv 32 41]
def GY:ACode:=(Sr ams (Sq (Cx 33 0) (Sq (Bk 1 (Sr amr (Rg amq))) (Rg amp))))
def Nr:LO:=[Fa 42 1 1,Ld 43 42,Ln 44 0 43,Mc 45 (.int .i64 0)]
def amo:LO:=[Bi 46 .lss 45 44]
def Ze:LO:=[Ia 47 2 43 45,Ls 48 2 47,Op 7 (.alloc (.agg zz2)),St 2 7 48]
def Zd:LO:=[Mv 49 3,Fa 50 1 7,Ld 51 50,Ln 52 0 51,Bi 53 .add 49 52,Mv 3 53]
def Zc:LO:=[Bc 54 .add 45 1,Mv 45 54]
def qt:ACode:=(Sr amo (Sq (Cx 46 2) (Sq (Bk 3 (Sr Ze (Rg Zd))) (Rg Zc))))
def ub:LO:=[Fa 55 2 1,Ld 56 55,Ln 57 0 56,Mc 58 (.int .i64 0)]
def Zb:LO:=[Bi 59 .lss 58 57]
def Za:LO:=[Ia 60 2 56 58,Ls 61 2 60,Op 9 (.alloc (.agg zz2)),St 2 9 61]
def Y9:LO:=[Mv 62 3,Fa 63 1 9,Ld 64 63,Ln 65 0 64,Bi 66 .add 62 65,Mv 3 66]
def Y8:LO:=[Bc 67 .add 58 1,Mv 58 67]
def ml:ACode:=(Sr Zb (Sq (Cx 59 4) (Sq (Bk 5 (Sr Za (Rg Y9))) (Rg Y8))))
def oy:LO:=[Fa 68 3 1,Ld 69 68,Ln 70 0 69,Mc 71 (.int .i64 0)]
def Y7:LO:=[Bi 72 .lss 71 70]
def Y6:LO:=[Ia 73 3 69 71,Ls 74 3 73,Op 11 (.alloc (.agg zz8)),St 3 11 74]
def Y5:LO:=[Mv 75 3,Fa 76 1 11,Ld 77 76,Ln 78 0 77,Bi 79 .add 75 78,Mv 3 79]
def YZ:LO:=[Fa 80 1 11,Ld 81 80,Ln 82 0 81,Mc 83 (.int .i64 0)]
def YY:LO:=[Bi 84 .lss 83 82]
def YX:LO:=[Ia 85 4 81 83,Ls 86 4 85,Op 13 (.alloc (.agg OA)),St 4 13 86]
def YW:LO:=[Mv 87 3,Fa 88 1 13,Ld 89 88,Ln 90 0 89,Fa 91 2 13,Ld 92 91,Ln 93 0 92,Bi 94 .add 90 93,Bi 95 .add 87 94,Mv 3 95]
def YV:LO:=[Bc 96 .add 83 1,Mv 83 96]
def Ab:ACode:=(Sr YY (Sq (Cx 84 8) (Sq (Bk 9 (Sr YX (Rg YW))) (Rg YV))))
def GZ:LO:=[Bc 97 .add 71 1,Mv 71 97]
def ir:ACode:=(Sr Y7 (Sq (Cx 72 6) (Sq (Bk 7 (Sr Y6 (Sr Y5 (Sr YZ (Bl 8 Ab))))) (Rg GZ))))
def js:LO:=[Mv 98 3,Mv 2 98]
def f435 : AFunc := ⟨99, 1, false, [.t 2], (Sr amv (Sr amu (Sq (Sr amt (Bl 0 GY)) (Sq (Sr Nr (Bl 2 qt)) (Sq (Sr ub (Bl 4 ml)) (Sq (Sr oy (Bl 6 ir)) (Rr js)))))))⟩
def Qp:LI:=[.inLoop GY, .inBlock 0, .code (Sq (Sr Nr (Bl 2 qt)) (Sq (Sr ub (Bl 4 ml)) (Sq (Sr oy (Bl 6 ir)) (Rr js))))]
def Nu:LI:=[.inLoop qt, .inBlock 2, .code (Sq (Sr ub (Bl 4 ml)) (Sq (Sr oy (Bl 6 ir)) (Rr js)))]
def Nt:LI:=[.inLoop ml, .inBlock 4, .code (Sq (Sr oy (Bl 6 ir)) (Rr js))]
def wa:LI:=[.inLoop ir, .inBlock 6, .code (Rr js)]
def Ns:LI:=[.inLoop Ab, .inBlock 8, .inBlock 7, .code (Rg GZ), .inLoop ir, .inBlock 6, .code (Rr js)]
def anc:LO:=[Mc 2 (.con (.slice none 0 0)),Mc 3 (.bool false)]
def anb:LO:=[Mc 4 (.con (.slice none 0 0))]
def ana:LO:=[Mc 5 (.int .i64 0)]
def am9:LO:=[Mv 7 0,Ln 8 1 7,Mc 9 (.int .i64 0)]
def am8:LO:=[Bi 10 .lss 9 8]
def am7:LO:=[Mv 11 9,Mv 6 11]
def am6:LO:=[Mv 12 0,Mv 13 6,Op 14 (.istr (.t 12) (.t 13)),Op 15 (.bin .eql (.t 14) (.c (.int .u8 10)))]
def am5:LO:=[Mv 16 4,Mv 17 0,Mv 18 5,Mv 19 6,Op 20 (.slstr (.t 17) (some (.t 18)) (some (.t 19))),Op 21 (.bsl 1 zz1 1 [0] [(.t 20)]),Ap 22 1 16 16 21,Mv 4 22]
def am4:LO:=[Mv 23 6,Bc 24 .add 23 1,Mv 5 24]
def am3:LO:=[Bc 25 .add 9 1,Mv 9 25]
def Ae:ACode:=(Sr am8 (Sq (Cx 10 0) (Sq (Bk 1 (Sr am7 (Sr am6 (Cn 15 (Sr am5 (Rg am4)) Sk)))) (Rg am3))))
def Ii:LO:=[Mv 26 5,Mv 27 0,Ln 28 1 27,Bi 29 .lss 26 28]
def Ig:LO:=[Mv 30 4,Mv 31 0,Mv 32 5,Op 33 (.slstr (.t 31) (some (.t 32)) none),Op 34 (.bsl 1 zz1 1 [0] [(.t 33)]),Ap 35 1 16 30 34,Mv 2 35,Mc 3 (.bool false)]
def Ic:LO:=[Mv 36 4,Mv 2 36,Mc 3 (.bool true)]
def f416 : AFunc := ⟨37, 1, false, [.t 2, .t 3], (Sr anc (Sr anb (Sr ana (Sq (Sr am9 (Bl 0 Ae)) (Sq (Sr Ii (Ci 29 (Rr Ig))) (Rr Ic))))))⟩
def am2:LO:=[Mc 4 (.int .i64 0),Mc 5 (.int .i64 0)]
def am1:LO:=[Mv 19 1,Ct 20 339 [19],Mv 18 20,Ex 21 18 0,Ex 22 18 1,Mv 6 21,Mv 7 22]
def am0:LO:=[Mv 23 7,Bc 24 .neq 23 0,Mv 25 24,Gf 25 (Mv 26 6),Gf 25 (Ln 27 0 26),Gf 25 (Bc 28 .eql 27 0),Po 29 25 28,Mv 30 29,Gf 30 (Mv 31 0),Gf 30 (Mv 32 6),Gf 30 (Op 33 (.iadr 1 (.t 32) (.c (.int .i64 0)))),Gf 30 (Ld 34 33),Gf 30 (Ct 35 460 [31, 34]),Gf 30 (Un 36 .not 35),Po 37 30 36]
def amZ:LO:=[Mc 4 (.int .i64 0),Mc 5 (.int .i64 2)]
def amY:LO:=[Mv 38 6,Op 39 (.iadr 1 (.t 38) (.c (.int .i64 0))),Ld 40 39,Mv 8 40]
def amX:LO:=[Mv 41 6,Op 42 (.slc 1 (.t 41) (some (.c (.int .i64 1))) none none),Op 43 (.build [.con (.slice none 0 0), .bool false] [(0, 1)] [(.t 42)]),Op 44 (.box (.t 43)),Mv 9 44]
def amW:LO:=[Mv 45 8,Op 46 (.bin .eql (.t 45) (.c (.str [108, 105, 110, 107])))]
def amV:LO:=[Mv 47 0,Nc 48 47,Fa 49 2 48,⟨none, .store 1 (.t 49) (.c (.int .i64 100)), none, []⟩]
def amU:LO:=[Mv 50 0,Mv 51 9,Ct 52 461 [50, 51],Mc 4 (.int .i64 0),Mv 5 52]
def amT:LO:=[Mv 54 8,Ct 55 462 [54],Mv 53 55,Ex 56 53 0,Ex 57 53 1,Mv 10 56,Mv 11 57]
def Zt:LO:=[Mc 12 (.int .i64 0)]
def Zr:LO:=[Mv 63 8,Op 64 (.bin .eql (.t 63) (.c (.str [112, 111, 108, 105, 99, 105, 101, 115]))),Mv 62 64]
def Zq:LO:=[Mv 66 9,Ct 67 463 [66],Mv 65 67,Ex 68 65 0,Ex 69 65 1,Ex 70 65 2,Ex 71 65 3,Ex 72 65 4,Mv 13 68,Mv 14 69,Mv 15 70,Mv 16 71,Mv 17 72]
def Zp:LO:=[Mv 73 13,Op 74 (.call (.t 73) [(.c (.int .i64 1099511627776))]),Mv 12 74]
def Zo:LO:=[Mv 75 9,Mv 76 9,Nc 77 76,Fa 78 1 77,Ld 79 78,Mv 80 79,Gf 80 (Mv 81 12),Gf 80 (Bc 82 .eql 81 0),Po 83 80 82,Nc 84 75,Fa 85 1 84,St 1 85 83]
def Zn:LO:=[Mv 87 10,Bc 88 .geq 87 8,Mv 86 88]
def Zm:LO:=[Mv 89 0,Mv 90 8,Mv 91 9,Ct 92 464 [89, 90, 91]]
def Zl:LO:=[Mv 58 0,Mv 59 8,Mv 60 9,Ct 61 465 [58, 59, 60]]
def Zk:LO:=[Mv 93 0,Mv 94 10,Nc 95 93,Fa 96 2 95,St 1 96 94]
def Zh:LO:=[Mv 97 9,Nc 98 97,Fa 99 1 98,Ld 100 99,Mv 101 100,Gf 101 (Mv 102 9),Gf 101 (Nc 103 102),Gf 101 (Fa 104 0 103),Gf 101 (Ld 105 104),Gf 101 (Ln 106 0 105),Gf 101 (Bc 107 .gtr 106 0),Po 108 101 107]
def Zg:LO:=[Mc 4 (.int .i64 0),Mc 5 (.int .i64 2)]
def Zf:LO:=[Mv 109 12,Mv 4 109,Mc 5 (.int .i64 0)]
def f417 : AFunc := ⟨110, 2, false, [.t 4, .t 5], (Sr am2 (Sr am1 (Sq (Sr am0 (Ci 37 (Rr amZ))) (Sr amY (Sr amX (Sq (Sr amW (Cn 46 (Sr amV (Rr amU)) Sk)) (Sr amT (Sr Zt (Sq (Bk 0 (Sr Zr (Cn 62 (Sr Zq (Sr Zp (Rg Zo))) (Sr Zn (Cn 86 (Rg Zm) (Rg Zl)))))) (Sr Zk (Sq (Sr Zh (Ci 108 (Rr Zg))) (Rr Zf))))))))))))⟩
def amS:LO:=[Mc 2 (.con (.pointer none))]
def amR:LO:=[Mv 3 0,Nc 4 3,Fa 5 0 4,Fa 6 0 5,Ld 7 6,Mv 8 0,Nc 9 8,Fa 10 0 9,Fa 11 0 10,Ld 12 11,Af [9] (Ln 13 0 12),Bc 14 .sub 13 1,Af [4, 10, 9] (Ia 15 25 7 14),Mv 2 15]
def f419 : AFunc := ⟨16, 1, false, [.t 2], (Sr amS (Sq (Rd amR) Rt))⟩
def anU:LO:=[Op 3 (.box (.t 1))]
def anT:LO:=[Ct 11 448 [],Mv 10 11,Ex 12 10 0,Ex 13 10 1,Op 4 (.alloc (.agg zz9)),Op 5 (.alloc (.agg zz9)),St 4 4 12,St 4 5 13]
def anS:LO:=[Mv 14 0,Fa 15 0 3,Ld 16 15,Op 17 (.bsl 1 zz1 2 [0, 1] [(.c (.str [114, 111, 117, 116, 101, 114])), (.t 16)]),Fa 18 1 3,Fa 19 0 18,Ld 20 19,Cv 21 .i64 20,Op 22 (.bsl 1 sR 1 [0] [(.t 21)]),Ct 23 408 [17, 22],Ct 24 406 [14, 23]]
def anR:LO:=[Fa 25 1 3,Fa 26 1 25,Ld 27 26,Ln 28 0 27,Mc 29 (.int .i64 0)]
def anQ:LO:=[Bi 30 .lss 29 28]
def anP:LO:=[Ia 31 9 27 29,Ls 32 9 31,Op 7 (.alloc (.agg zz3)),St 9 7 32]
def anO:LO:=[Mv 33 0,Fa 34 0 7,Ld 35 34,Op 36 (.iarr 4 1 (.t 4) (.t 35)),Af [2] (Ld 37 36),Fa 38 1 7,Ls 39 2 38,Af [6] (Ct 40 229 [39]),Fa 41 3 7,Ld 42 41,Af [9, 7, 6] (Ct 43 227 [42]),Af [4, 10, 2, 9, 7, 6] (Op 44 (.bsl 1 zz1 4 [0, 1, 2, 3] [(.c (.str [105, 102, 97, 99, 101])), (.t 37), (.t 40), (.t 43)])),Fa 45 4 7,Ld 46 45,Cv 47 .i64 46,Fa 48 5 7,Ld 49 48,Fa 50 6 7,Ld 51 50,Fa 52 7 7,Ld 53 52,Fa 54 8 7,
 Ld 55 54,Af [16, 18, 20, 22, 13] (Op 56 (.bsl 1 sR 5 [0, 1, 2, 3, 4] [(.t 47), (.t 49), (.t 51), (.t 53), (.t 55)])),Af [11, 23, 4, 10, 2, 16, 18, 20, 22, 13, 9, 7, 6] (Ct 57 408 [44, 56]),Af [24, 11, 23, 4, 10, 2, 16, 18, 20, 22, 13, 9, 7, 6] (Ct 58 406 [33, 57])]
def anN:LO:=[Bc 59 .add 29 1,Mv 29 59]
def Iq:ACode:=(Sr anQ (Sq (Cx 30 0) (Sq (Bk 1 (Sr anP (Rd anO))) (Rg anN))))
def Ny:LO:=[Fa 60 1 3,Fa 61 2 60,Ld 62 61,Ln 63 0 62,Mc 64 (.int .i64 0)]
def aal:LO:=[Bi 65 .lss 64 63]
def aak:LO:=[Ia 66 4 62 64,Ls 67 4 66,Op 9 (.alloc (.agg sN)),St 4 9 67]
def aaj:LO:=[Mv 68 0,Fa 69 0 9,Ld 70 69,Cv 71 .i64 70,Af [2] (Ct 72 337 [71]),Fa 73 1 9,Ls 74 2 73,Af [6, 4, 2] (Ct 75 229 [74]),Fa 76 3 9,Ld 77 76,Af [9, 7, 6, 4, 2] (Ct 78 449 [77]),Af [10, 9, 7, 6, 4, 2] (Op 79 (.bsl 1 zz1 4 [0, 1, 2, 3] [(.c (.str [114, 97, 110, 103, 101])), (.t 72), (.t 75), (.t 78)])),Af [11, 10, 9, 7, 6, 4, 2] (Ct 80 406 [68, 79])]
def aai:LO:=[Bc 81 .add 64 1,Mv 64 81]
def qw:ACode:=(Sr aal (Sq (Cx 65 2) (Sq (Bk 3 (Sr aak (Rd aaj))) (Rg aai))))
def f402 : AFunc := ⟨82, 2, false, [], (Sr anU (Sr anT (Sr anS (Sq (Sr anR (Bl 0 Iq)) (Sr Ny (Bl 2 qw))))))⟩
def anM:LO:=[Op 3 (.box (.t 1))]
def anL:LO:=[Fa 9 20 3,Ld 10 9]
def anK:LO:=[Mv 11 0,Op 12 (.bsl 1 zz1 1 [0] [(.c (.str [108, 97, 98, 101, 108, 115]))]),Ct 13 406 [11, 12]]
def anJ:LO:=[Fa 14 21 3,Ld 15 14]
def anI:LO:=[Mv 16 0,Op 17 (.bsl 1 zz1 1 [0] [(.c (.str [114, 101, 114, 111, 117, 116, 101]))]),Ct 18 406 [16, 17]]
def anH:LO:=[Fa 19 24 3,Ld 20 19,Ln 21 0 20,Bc 22 .gtr 21 0]
def anG:LO:=[Mv 23 0,Op 24 (.bsl 1 zz1 1 [0] [(.c (.str [100, 105, 115, 116, 97, 110, 99, 101, 115]))]),Fa 25 24 3,Ld 26 25,Ct 27 408 [24, 26],Ct 28 406 [23, 27]]
def anF:LO:=[Fa 29 23 3,Ld 30 29,Ln 31 0 30,Mc 32 (.int .i64 0)]
def anE:LO:=[Bi 33 .lss 32 31]
def anC:LO:=[Ia 34 4 30 32,Ls 35 4 34,Op 5 (.alloc (.agg sO)),St 4 5 35]
def aah:LO:=[Mc 6 (.str [46])]
def aag:LO:=[Fa 36 2 5,Ld 37 36,Op 38 (.bin .neq (.t 37) (.c (.int .u32 0)))]
def aaf:LO:=[Fa 39 2 5,Ld 40 39,Ct 41 227 [40],Mv 6 41]
def aae:LO:=[Mv 42 0,Fa 43 0 5,Ls 44 2 43,Af [2] (Ct 45 229 [44]),Mv 46 6,Fa 47 3 5,Ld 48 47,Af [6, 3, 2] (Ct 49 337 [48]),Af [7, 6, 3, 2] (Op 50 (.bsl 1 zz1 4 [0, 1, 2, 3] [(.c (.str [115, 116, 97, 116, 105, 99])), (.t 45), (.t 46), (.t 49)])),Af [8, 7, 6, 3, 2] (Ct 51 406 [42, 50])]
def aad:LO:=[Bc 52 .add 32 1,Mv 32 52]
def Aq:ACode:=(Sr anE (Sq (Cx 33 0) (Sq (Bk 1 (Sr anC (Sr aah (Sq (Sr aag (Cn 38 (Rg aaf) Sk)) (Rd aae))))) (Rg aad))))
def Ip:LO:=[Fa 53 22 3,Ld 54 53,Ln 55 0 54,Mc 56 (.int .i64 0)]
def aac:LO:=[Bi 57 .lss 56 55]
def aab:LO:=[Ia 58 5 54 56,Ls 59 5 58,Op 8 (.alloc (.agg xP)),St 5 8 59]
def aaa:LO:=[Mv 60 0,Fa 61 0 8,Ld 62 61,Af [2] (Ct 63 337 [62]),Fa 64 1 8,Ld 65 64,Af [5, 3, 2] (Ct 66 337 [65]),Fa 67 2 8,Ld 68 67,Af [8, 6, 5, 3, 2] (Ct 69 450 [68]),Fa 70 3 8,Ld 71 70,Af [11, 9, 8, 6, 5, 3, 2] (Ct 72 337 [71]),Fa 73 4 8,Ld 74 73,Af [14, 12, 11, 9, 8, 6, 5, 3, 2] (Ct 75 449 [74]),
 Af [15, 14, 12, 11, 9, 8, 6, 5, 3, 2] (Op 76 (.bsl 1 zz1 6 [0, 1, 2, 3, 4, 5] [(.c (.str [114, 101, 100, 105, 115, 116, 114, 105, 98, 117, 116, 101])), (.t 63), (.t 66), (.t 69), (.t 72), (.t 75)])),Af [16, 15, 14, 12, 11, 9, 8, 6, 5, 3, 2] (Ct 77 406 [60, 76])]
def Z8:LO:=[Bc 78 .add 56 1,Mv 56 78]
def qv:ACode:=(Sr aac (Sq (Cx 57 2) (Sq (Bk 3 (Sr aab (Rd aaa))) (Rg Z8))))
def f403 : AFunc := ⟨79, 2, false, [], (Sr anM (Sq (Sr anL (Cn 10 (Rg anK) Sk)) (Sq (Sr anJ (Cn 15 (Rg anI) Sk)) (Sq (Sr anH (Cn 22 (Rg anG) Sk)) (Sq (Sr anF (Bl 0 Aq)) (Sr Ip (Bl 2 qv)))))))⟩
def anB:LO:=[Op 1 (.box (.t 0)),Mc 2 (.str []),Mc 3 (.int .i64 0)]
def anA:LO:=[Ls 22 4 1,Ct 23 451 [22],Mv 4 23]
def anz:LO:=[Mv 24 4,Bc 25 .neq 24 0]
def anx:LO:=[Mv 26 4,Mc 2 (.str []),Mv 3 26]
def anw:LO:=[Mc 5 (.str [])]
def anv:LO:=[Fa 27 0 1,Ld 28 27,Ln 29 0 28,Mc 30 (.int .i64 0)]
def anu:LO:=[Bi 31 .lss 30 29]
def ant:LO:=[Ia 32 2 28 30,Ls 33 2 32,Op 7 (.alloc (.agg zz2)),St 2 7 33]
def ans:LO:=[Mv 34 5,Fa 35 0 7,Ld 36 35,Op 37 (.bin .add (.c (.str [112, 114, 101, 102, 105, 120, 45, 108, 105, 115, 116, 32])) (.t 36)),Op 38 (.bin .add (.t 37) (.c (.str [10]))),Bi 39 .add 34 38,Mv 5 39]
def anr:LO:=[Fa 40 1 7,Ld 41 40,Ln 42 0 41,Mc 43 (.int .i64 0)]
def Z7:LO:=[Bi 44 .lss 43 42]
def Z6:LO:=[Ia 45 5 41 43,Ls 46 5 45,Op 9 (.alloc (.agg zz20)),St 5 9 46]
def ZY:LO:=[Ls 48 5 9,Ct 49 332 [48],Mv 47 49,Ex 50 47 0,Ex 51 47 1,Mv 10 50,Mv 11 51]
def ZX:LO:=[Mv 52 5,Mv 53 10,Op 54 (.bin .add (.t 53) (.c (.str [10]))),Bi 55 .add 52 54,Mv 5 55]
def ZW:LO:=[Bc 56 .add 43 1,Mv 43 56]
def Am:ACode:=(Sr Z7 (Sq (Cx 44 2) (Sq (Bk 3 (Sr Z6 (Sr ZY (Rg ZX)))) (Rg ZW))))
def Io:LO:=[Bc 57 .add 30 1,Mv 30 57]
def qu:ACode:=(Sr anu (Sq (Cx 31 0) (Sq (Bk 1 (Sr ant (Sr ans (Sr anr (Bl 2 Am))))) (Rg Io))))
def uc:LO:=[Fa 58 1 1,Ld 59 58,Ln 60 0 59,Mc 61 (.int .i64 0)]
def ZU:LO:=[Bi 62 .lss 61 60]
def ZT:LO:=[Ia 63 2 59 61,Ls 64 2 63,Op 13 (.alloc (.agg zz2)),St 2 13 64]
def ZR:LO:=[Mv 65 5,Fa 66 0 13,Ld 67 66,Op 68 (.bin .add (.c (.str [112, 97, 116, 104, 45, 108, 105, 115, 116, 32])) (.t 67)),Op 69 (.bin .add (.t 68) (.c (.str [10]))),Bi 70 .add 65 69,Mv 5 70]
def ZP:LO:=[Fa 71 1 13,Ld 72 71,Ln 73 0 72,Mc 74 (.int .i64 0)]
def ZO:LO:=[Bi 75 .lss 74 73]
def ZN:LO:=[Ia 76 2 72 74,Ls 77 2 76,Op 15 (.alloc (.agg [.bool false, .str []])),St 2 15 77]
def ZM:LO:=[Mv 78 5,Fa 79 0 15,Ld 80 79,Af [2] (Ct 81 452 [80]),Fa 82 1 15,Ld 83 82,Bi 84 .add 81 83,Op 85 (.bin .add (.t 84) (.c (.str [10]))),Bi 86 .add 78 85,Mv 5 86]
def ZL:LO:=[Bc 87 .add 74 1,Mv 74 87]
def Ah:ACode:=(Sr ZO (Sq (Cx 75 6) (Sq (Bk 7 (Sr ZN (Rd ZM))) (Rg ZL))))
def Im:LO:=[Bc 88 .add 61 1,Mv 61 88]
def jQ:ACode:=(Sr ZU (Sq (Cx 62 4) (Sq (Bk 5 (Sr ZT (Sr ZR (Sr ZP (Bl 6 Ah))))) (Rg Im))))
def kY:LO:=[Fa 89 2 1,Ld 90 89,Ln 91 0 90,Mc 92 (.int .i64 0)]
def ZK:LO:=[Bi 93 .lss 92 91]
def ZH:LO:=[Ia 94 2 90 92,Ls 95 2 94,Op 17 (.alloc (.agg zz2)),St 2 17 95]
def ZG:LO:=[Mv 96 5,Fa 97 0 17,Ld 98 97,Op 99 (.bin .add (.c (.str [99, 111, 109, 109, 117, 110, 105, 116, 121, 45, 108, 105, 115, 116, 32])) (.t 98)),Op 100 (.bin .add (.t 99) (.c (.str [10]))),Bi 101 .add 96 100,Mv 5 101]
def ZF:LO:=[Fa 102 1 17,Ld 103 102,Ln 104 0 103,Mc 105 (.int .i64 0)]
def ZE:LO:=[Bi 106 .lss 105 104]
def ZD:LO:=[Ia 107 3 103 105,Ls 108 3 107,Op 19 (.alloc (.agg zz21)),St 3 19 108]
def ZC:LO:=[Mv 109 5,Fa 110 0 19,Ld 111 110,Af [2] (Ct 112 452 [111]),Fa 113 1 19,Ld 114 113,Af [5, 3, 2] (Ct 115 453 [114]),Bi 116 .add 112 115,Op 117 (.bin .add (.t 116) (.c (.str [58]))),Fa 118 2 19,Ld 119 118,Af [10, 6, 5, 3, 2] (Ct 120 453 [119]),Bi 121 .add 117 120,Op 122 (.bin .add (.t 121) (.c (.str [10]))),Bi 123 .add 109 122,Mv 5 123]
def ZB:LO:=[Bc 124 .add 105 1,Mv 105 124]
def Ag:ACode:=(Sr ZE (Sq (Cx 106 10) (Sq (Bk 11 (Sr ZD (Rd ZC))) (Rg ZB))))
def Il:LO:=[Bc 125 .add 92 1,Mv 92 125]
def gh:ACode:=(Sr ZK (Sq (Cx 93 8) (Sq (Bk 9 (Sr ZH (Sr ZG (Sr ZF (Bl 10 Ag))))) (Rg Il))))
def iu:LO:=[Fa 126 3 1,Ld 127 126,Ln 128 0 127,Mc 129 (.int .i64 0)]
def ZA:LO:=[Bi 130 .lss 129 128]
def Zy:LO:=[Ia 131 3 127 129,Ls 132 3 131,Op 21 (.alloc (.agg zz8)),St 3 21 132]
def Zx:LO:=[Mv 133 5,Ls 134 3 21,Ct 135 454 [134],Bi 136 .add 133 135,Mv 5 136]
def Zw:LO:=[Mv 137 5,Ln 138 1 137,Bc 139 .gtr 138 65536]
def Zu:LO:=[Bc 140 .add 129 1,Mv 129 140]
def fj:ACode:=(Sr ZA (Sq (Cx 130 12) (Sq (Bk 13 (Sr Zy (Sr Zx (Sr Zw (Cn 139 (Xt 12) Sk))))) (Rg Zu))))
def gv:LO:=[Mv 141 5,Ln 142 1 141,Bc 143 .gtr 142 65536]
def gu:LO:=[Mc 2 (.str []),Mc 3 (.int .i64 4)]
def gr:LO:=[Mv 144 5,Mv 2 144,Mc 3 (.int .i64 0)]
def f405 : AFunc := ⟨145, 1, false, [.t 2, .t 3], (Sr anB (Sq (Sr anA (Sr anz (Ci 25 (Rr anx)))) (Sr anw (Sq (Sr anv (Bl 0 qu)) (Sq (Sr uc (Bl 4 jQ)) (Sq (Sr kY (Bl 8 gh)) (Sq (Sr iu (Bl 12 fj)) (Sq (Sr gv (Ci 143 (Rr gu))) (Rr gr)))))))))⟩
def anq:LO:=[Mv 6 1,Ln 7 0 6,Mc 8 (.int .i64 0)]
def anp:LO:=[Bi 9 .lss 8 7]
def ano:LO:=[Mv 10 8,Ia 11 1 6 8,Ld 12 11,Mv 4 10,Mv 5 12]
def ann:LO:=[Mv 13 4,Bc 14 .gtr 13 0]
def anm:LO:=[Mv 15 0,Nc 16 15,Fa 17 0 16,Ld 18 17,Op 19 (.bin .add (.t 18) (.c (.str [32]))),Nc 20 15,Fa 21 0 20,St 1 21 19]
def anl:LO:=[Mv 22 0,Nc 23 22,Fa 24 0 23,Ld 25 24,Mv 26 5,Bi 27 .add 25 26,Nc 28 22,Fa 29 0 28,St 1 29 27]
def ank:LO:=[Bc 30 .add 8 1,Mv 8 30]
def Ik:ACode:=(Sr anp (Sq (Cx 9 0) (Sq (Bk 1 (Sr ano (Sq (Sr ann (Cn 14 (Rg anm) Sk)) (Rg anl)))) (Rg ank))))
def Nx:LO:=[Mv 31 0,Nc 32 31,Fa 33 0 32,Ld 34 33,Op 35 (.bin .add (.t 34) (.c (.str [10]))),Nc 36 31,Fa 37 0 36,St 1 37 35]
def f406 : AFunc := ⟨38, 2, false, [], (Sq (Sr anq (Bl 0 Ik)) (Rg Nx))⟩
def arA:LO:=[Mc 2 (.str [])]
def arz:LO:=[Mv 3 0,Ct 4 246 [3],Mv 2 4]
def f337 : AFunc := ⟨5, 1, false, [.t 2], (Sr arA (Rr arz))⟩
def anj:LO:=[Mc 4 (.con (.slice none 0 0))]
def ani:LO:=[Mv 7 1,Ln 8 0 7,Mc 9 (.int .i64 0)]
def anh:LO:=[Bi 10 .lss 9 8]
def ang:LO:=[Ia 11 1 7 9,Ld 12 11,Mv 6 12]
def anf:LO:=[Mv 13 0,Mv 14 6,Ct 15 337 [14],Op 16 (.bsl 1 zz1 1 [0] [(.t 15)]),Ap 17 1 16 13 16,Mv 0 17]
def ane:LO:=[Bc 18 .add 9 1,Mv 9 18]
def Ij:ACode:=(Sr anh (Sq (Cx 10 0) (Sq (Bk 1 (Sr ang (Rg anf))) (Rg ane))))
def Nw:LO:=[Mv 19 0,Mv 4 19]
def f408 : AFunc := ⟨20, 2, true, [.t 4], (Sr anj (Sq (Sr ani (Bl 0 Ij)) (Rr Nw)))⟩
def amn:LO:=[Mc 2 (.bool false)]
def amm:LO:=[Mv 5 0,Ln 6 1 5,Mc 7 (.int .i64 0)]
def aml:LO:=[Bi 8 .lss 7 6]
def amk:LO:=[Mv 9 7,Mv 3 9]
def amj:LO:=[Mv 10 0,Mv 11 3,Op 12 (.istr (.t 10) (.t 11)),Mv 4 12]
def ami:LO:=[Mv 13 4,Op 14 (.bin .geq (.t 13) (.c (.int .u8 97))),Mv 15 14,Gt 15 (Mv 16 4),Gt 15 (Op 17 (.bin .leq (.t 16) (.c (.int .u8 122)))),Pa 18 15 17,Mv 19 18,Gf 19 (Mv 20 4),Gf 19 (Op 21 (.bin .geq (.t 20) (.c (.int .u8 48)))),Gf 19 (Mv 22 21),Gt 22 (Mv 23 4),Gt 22 (Op 24 (.bin .leq (.t 23) (.c (.int .u8 57)))),Gf 19 (Pa 25 22 24),Po 26 19 25,Mv 27 26,Gf 27 (Mv 28 4),
 Gf 27 (Op 29 (.bin .eql (.t 28) (.c (.int .u8 45)))),Po 30 27 29,Un 31 .not 30]
def amh:LO:=[Mc 2 (.bool false)]
def amg:LO:=[Bc 32 .add 7 1,Mv 7 32]
def GX:ACode:=(Sr aml (Sq (Cx 8 0) (Sq (Bk 1 (Sr amk (Sr amj (Sr ami (Ci 31 (Rr amh)))))) (Rg amg))))
def Nq:LO:=[Mv 33 0,Ln 34 1 33,Bc 35 .geq 34 1,Mv 36 35,Gt 36 (Mv 37 0),Gt 36 (Ln 38 1 37),Gt 36 (Bc 39 .leq 38 32),Pa 40 36 39,Mv 2 40]
def f436 : AFunc := ⟨41, 1, false, [.t 2], (Sr amn (Sq (Sr amm (Bl 0 GX)) (Rr Nq)))⟩
def amf:LO:=[Op 1 (.box (.t 0)),Mc 2 (.int .i64 0)]
def ame:LO:=[Fa 8 0 1,Ld 9 8,Op 10 (.bin .eql (.t 9) (.c (.int .u32 0))),Mv 7 10]
def amd:LO:=[Mc 2 (.int .i64 5)]
def amc:LO:=[Fa 12 1 1,Ld 13 12,Ln 14 0 13,Bc 15 .eql 14 0,Mv 11 15]
def amb:LO:=[Mc 2 (.int .i64 1)]
def ama:LO:=[Fa 17 1 1,Ld 18 17,Ln 19 0 18,Bc 20 .gtr 19 16,Mv 21 20,Gf 21 (Fa 22 2 1),Gf 21 (Ld 23 22),Gf 21 (Ln 24 0 23),Gf 21 (Bc 25 .gtr 24 64),Po 26 21 25,Mv 16 26]
def al9:LO:=[Mc 2 (.int .i64 4)]
def al8:LO:=[Fa 27 1 1,Ld 28 27,Ct 29 490 [28],Mv 3 29]
def al7:LO:=[Mv 30 3,Bc 31 .neq 30 0]
def al6:LO:=[Mv 32 3,Mv 2 32]
def YU:LO:=[Fa 33 2 1,Ld 34 33,Ln 35 0 34,Mc 36 (.int .i64 0)]
def YT:LO:=[Bi 37 .lss 36 35]
def YQ:LO:=[Mv 38 36,Ia 39 4 34 36,Ls 40 4 39,Op 5 (.alloc (.agg sN)),Mv 4 38,St 4 5 40]
def YP:LO:=[Fa 41 1 5,Ls 42 2 41,Ct 43 178 [42],Un 44 .not 43]
def YO:LO:=[Mc 2 (.int .i64 1)]
def YN:LO:=[Mv 45 4,Bc 46 .gtr 45 0]
def YM:LO:=[Fa 47 2 1,Ld 48 47,Mv 49 4,Bc 50 .sub 49 1,Ia 51 4 48 50,Ls 52 4 51,Op 6 (.alloc (.agg sN)),St 4 6 52]
def YL:LO:=[Fa 53 0 6,Ld 54 53,Fa 55 0 5,Ld 56 55,Af [1, 3] (Ct 57 43 [54, 56]),Fa 58 1 6,Ls 59 2 58,Fa 60 1 5,Ls 61 2 60,Af [6, 8, 4, 1, 3] (Ct 62 172 [59, 61]),Af [9, 6, 8, 4, 1, 3] (Op 63 (.bsl 1 sR 2 [0, 1] [(.t 57), (.t 62)])),Af [10, 9, 6, 8, 4, 1, 3] (Ct 64 41 [63]),Bc 65 .geq 64 0]
def YK:LO:=[Mc 2 (.int .i64 16)]
def YJ:LO:=[Bc 66 .add 36 1,Mv 36 66]
def Aa:ACode:=(Sr YT (Sq (Cx 37 1) (Sq (Bk 2 (Sr YQ (Sq (Sr YP (Ci 44 (Rr YO))) (Sr YN (Cn 46 (Sr YM (Sq (Rd YL) (Ci 65 (Rr YK)))) Sk))))) (Rg YJ))))
def GW:LO:=[Mc 2 (.int .i64 0)]
def f437 : AFunc := ⟨67, 1, false, [.t 2], (Sr amf (Sq (Bk 0 (Sr ame (Cn 7 (Rr amd) (Sr amc (Cn 11 (Rr amb) (Sr ama (Ci 16 (Rr al9)))))))) (Sq (Sr al8 (Sr al7 (Ci 31 (Rr al6)))) (Sq (Sr YU (Bl 1 Aa)) (Rr GW)))))⟩
def al5:LO:=[Op 1 (.box (.t 0)),Mc 2 (.int .i64 0)]
def al4:LO:=[Fa 4 4 1,Ld 5 4,Un 6 .not 5]
def al3:LO:=[Fa 7 5 1,Fa 8 6 7,Ls 9 4 8,Ct 10 451 [9],Bc 11 .neq 10 0]
def al2:LO:=[Mc 2 (.int .i64 1)]
def al1:LO:=[Mc 2 (.int .i64 0)]
def al0:LO:=[Fa 12 5 1,Ls 13 15 12,Ct 14 491 [13],Mv 3 14]
def alZ:LO:=[Mv 15 3,Bc 16 .neq 15 0]
def alY:LO:=[Mv 17 3,Mv 2 17]
def alX:LO:=[Fa 18 5 1,Fa 19 2 18,Ld 20 19,Fa 21 1 1,Fa 22 0 21,Ld 23 22,Bi 24 .neq 20 23]
def alW:LO:=[Mc 2 (.int .i64 14)]
def YI:LO:=[Mc 2 (.int .i64 0)]
def f438 : AFunc := ⟨25, 1, false, [.t 2], (Sr al5 (Sq (Sr al4 (Cn 6 (Sq (Sr al3 (Ci 11 (Rr al2))) (Rr al1)) Sk)) (Sq (Sr al0 (Sr alZ (Ci 16 (Rr alY)))) (Sq (Sr alX (Ci 24 (Rr alW))) (Rr YI)))))⟩
def alV:LO:=[Op 2 (.box (.t 0)),Mc 4 (.int .i64 0)]
def alU:LO:=[Ls 9 4 2,Ct 10 451 [9],Mv 5 10]
def alS:LO:=[Mv 11 5,Bc 12 .neq 11 0]
def alR:LO:=[Mv 13 5,Mv 4 13]
def alQ:LO:=[Mv 14 1,Ln 15 0 14,Bc 16 .gtr 15 64]
def alP:LO:=[Mc 4 (.int .i64 4)]
def alO:LO:=[Mv 17 1,Ln 18 0 17,Mc 19 (.int .i64 0)]
def alN:LO:=[Bi 20 .lss 19 18]
def alM:LO:=[Ia 21 5 17 19,Ls 22 5 21,Op 7 (.alloc (.agg xP)),St 5 7 22]
def alK:LO:=[Ls 23 4 2,Ls 24 5 7,Ct 25 492 [23, 24],Mv 8 25]
def YH:LO:=[Mv 26 8,Bc 27 .neq 26 0]
def YG:LO:=[Mv 28 8,Mv 4 28]
def YF:LO:=[Bc 29 .add 19 1,Mv 19 29]
def z8:ACode:=(Sr alN (Sq (Cx 20 0) (Sq (Bk 1 (Sr alM (Sr alK (Sr YH (Ci 27 (Rr YG)))))) (Rg YF))))
def GV:LO:=[Mc 4 (.int .i64 0)]
def f439 : AFunc := ⟨30, 2, false, [.t 4], (Sr alV (Sq (Sr alU (Sr alS (Ci 12 (Rr alR)))) (Sq (Sr alQ (Ci 16 (Rr alP))) (Sq (Sr alO (Bl 0 z8)) (Rr GV)))))⟩
def alJ:LO:=[Op 1 (.box (.t 0)),Mc 2 (.int .i64 0)]
def alI:LO:=[Fa 7 23 1,Ld 8 7,Ln 9 0 8,Mc 10 (.int .i64 0)]
def alH:LO:=[Bi 11 .lss 10 9]
def alG:LO:=[Ia 12 4 8 10,Ls 13 4 12,Op 4 (.alloc (.agg sO)),St 4 4 13]
def alF:LO:=[Fa 14 0 4,Ls 15 2 14,Ct 16 178 [15],Un 17 .not 16,Mv 18 17,Gf 18 (Fa 19 3 4),Gf 18 (Ld 20 19),Gf 18 (Bc 21 .lss 20 0),Po 22 18 21,Mv 23 22,Gf 23 (Fa 24 3 4),Gf 23 (Ld 25 24),Gf 23 (Bc 26 .gtr 25 255),Po 27 23 26]
def alE:LO:=[Mc 2 (.int .i64 1)]
def alD:LO:=[Bc 28 .add 10 1,Mv 10 28]
def GR:ACode:=(Sr alH (Sq (Cx 11 0) (Sq (Bk 1 (Sr alG (Sr alF (Ci 27 (Rr alE))))) (Rg alD))))
def Nn:LO:=[Fa 29 24 1,Ld 30 29,Ln 31 0 30,Bc 32 .neq 31 0,Mv 33 32,Gt 33 (Fa 34 24 1),Gt 33 (Ld 35 34),Gt 33 (Ln 36 0 35),Gt 33 (Bc 37 .neq 36 7),Pa 38 33 37]
def Nl:LO:=[Mc 2 (.int .i64 1)]
def GU:LO:=[Fa 39 24 1,Ld 40 39,Ln 41 0 40,Mc 42 (.int .i64 0)]
def YE:LO:=[Bi 43 .lss 42 41]
def YD:LO:=[Ia 44 1 40 42,Ld 45 44,Mv 6 45]
def YC:LO:=[Mv 46 6,Bc 47 .lss 46 0,Mv 48 47,Gf 48 (Mv 49 6),Gf 48 (Bc 50 .gtr 49 255),Po 51 48 50]
def YB:LO:=[Mc 2 (.int .i64 1)]
def YA:LO:=[Bc 52 .add 42 1,Mv 42 52]
def qr:ACode:=(Sr YE (Sq (Cx 43 2) (Sq (Bk 3 (Sr YD (Sr YC (Ci 51 (Rr YB))))) (Rg YA))))
def ua:LO:=[Mc 2 (.int .i64 0)]
def f440 : AFunc := ⟨53, 1, false, [.t 2], (Sr alJ (Sq (Sr alI (Bl 0 GR)) (Sq (Sr Nn (Ci 38 (Rr Nl))) (Sq (Sr GU (Bl 2 qr)) (Rr ua)))))⟩
def alC:LO:=[Op 3 (.box (.t 0)),Op 4 (.box (.t 1)),Mc 6 (.int .i64 0)]
def alB:LO:=[Fa 13 0 4,Ld 14 13,Ln 15 0 14,Mc 16 (.int .i64 0)]
def alA:LO:=[Bi 17 .lss 16 15]
def alz:LO:=[Mv 18 16,Ia 19 2 14 16,Ls 20 2 19,Op 8 (.alloc (.agg zz7)),Mv 7 18,St 2 8 20]
def aly:LO:=[Ls 22 2 3,Ls 23 2 8,Ct 24 426 [22, 23],Mv 21 24,Ex 25 21 0,Ex 26 21 1,Op 9 (.alloc (.agg zz3)),St 9 9 25,Mv 10 26]
def alx:LO:=[Mv 27 10,Un 28 .not 27]
def alw:LO:=[Mc 6 (.int .i64 5)]
def alv:LO:=[Mv 29 2,Ls 30 2 8,Op 31 (.mlook true [.int, .int] (.bool false) (.t 29) (.t 30))]
def alu:LO:=[Mc 6 (.int .i64 7)]
def als:LO:=[Fa 32 0 4,Ld 33 32,Mv 34 7,Op 35 (.slc 2 (.t 33) none (some (.t 34)) none),Ln 36 0 35,Mc 37 (.int .i64 0)]
def Yz:LO:=[Bi 38 .lss 37 36]
def Yy:LO:=[Ia 39 2 35 37,Ls 40 2 39,Op 12 (.alloc (.agg zz7)),St 2 12 40]
def Yx:LO:=[Fa 41 0 12,Ld 42 41,Fa 43 0 8,Ld 44 43,Bi 45 .eql 42 44]
def Yw:LO:=[Mc 6 (.int .i64 1)]
def Yv:LO:=[Bc 46 .add 37 1,Mv 37 46]
def z7:ACode:=(Sr Yz (Sq (Cx 38 2) (Sq (Bk 3 (Sr Yy (Sr Yx (Ci 45 (Rr Yw))))) (Rg Yv))))
def GQ:LO:=[Mv 47 2,Ls 48 2 8,⟨none, .mset true [.int, .int] (.t 47) (.t 48) (.c (.bool true)), none, []⟩]
def GN:LO:=[Bc 49 .add 16 1,Mv 16 49]
def qq:ACode:=(Sr alA (Sq (Cx 17 0) (Sq (Bk 1 (Sr alz (Sq (Sr aly (Sr alx (Ci 28 (Rr alw)))) (Sq (Sr alv (Ci 31 (Rr alu))) (Sq (Sr als (Bl 2 z7)) (Rg GQ)))))) (Rg GN))))
def t8:LO:=[Mc 6 (.int .i64 0)]
def f441 : AFunc := ⟨50, 3, false, [.t 6], (Sr alC (Sq (Sr alB (Bl 0 qq)) (Rr t8)))⟩
def amJ:LO:=[Op 2 (.box (.t 0)),Op 3 (.box (.t 1)),Op 4 (.alloc (.agg zz3)),Mc 5 (.bool false)]
def amI:LO:=[Fa 7 0 3,Ld 8 7,Bc 9 .lss 8 0,Mv 10 9,Gf 10 (Fa 11 0 3),Gf 10 (Ld 12 11),Gf 10 (Fa 13 0 2),Gf 10 (Ld 14 13),Gf 10 (Ln 15 0 14),Gf 10 (Bi 16 .geq 12 15),Po 17 10 16]
def amH:LO:=[Op 18 (.build zz3 [] []),St 9 4 18,Mc 5 (.bool false)]
def amG:LO:=[Fa 19 0 2,Ld 20 19,Fa 21 0 3,Ld 22 21,Ia 23 25 20 22,Fa 24 1 23,Fa 25 1 24,Ld 26 25,Mv 6 26]
def amF:LO:=[Fa 27 1 3,Ld 28 27,Bc 29 .lss 28 0,Mv 30 29,Gf 30 (Fa 31 1 3),Gf 30 (Ld 32 31),Gf 30 (Mv 33 6),Gf 30 (Ln 34 0 33),Gf 30 (Bi 35 .geq 32 34),Po 36 30 35]
def amE:LO:=[Op 37 (.build zz3 [] []),St 9 4 37,Mc 5 (.bool false)]
def amD:LO:=[Mv 38 6,Fa 39 1 3,Ld 40 39,Ia 41 9 38 40,Ls 42 9 41,St 9 4 42,Mc 5 (.bool true)]
def f426 : AFunc := ⟨43, 2, false, [.cell 4 (some 9), .t 5], (Sr amJ (Sq (Sr amI (Ci 17 (Rr amH))) (Sr amG (Sq (Sr amF (Ci 36 (Rr amE))) (Rr amD)))))⟩
def alr:LO:=[Mc 2 (.bool false)]
def alq:LO:=[Mv 4 0,Ln 5 1 4,Mc 6 (.int .i64 0)]
def alp:LO:=[Bi 7 .lss 6 5]
def alo:LO:=[Mv 8 6,Mv 3 8]
def aln:LO:=[Mv 9 0,Mv 10 3,Op 11 (.istr (.t 9) (.t 10)),Op 12 (.bin .lss (.t 11) (.c (.int .u8 97))),Mv 13 12,Gf 13 (Mv 14 0),Gf 13 (Mv 15 3),Gf 13 (Op 16 (.istr (.t 14) (.t 15))),Gf 13 (Op 17 (.bin .gtr (.t 16) (.c (.int .u8 122)))),Po 18 13 17,Mv 19 18,Gt 19 (Mv 20 0),Gt 19 (Mv 21 3),Gt 19 (Op 22 (.istr (.t 20) (.t 21))),Gt 19 (Op 23 (.bin .lss (.t 22) (.c (.int .u8 48)))),Gt 19 (Mv 24 23),Gf 24 (Mv 25 0),
 Gf 24 (Mv 26 3),Gf 24 (Op 27 (.istr (.t 25) (.t 26))),Gf 24 (Op 28 (.bin .gtr (.t 27) (.c (.int .u8 57)))),Gt 19 (Po 29 24 28),Pa 30 19 29,Mv 31 30,Gt 31 (Mv 32 0),Gt 31 (Mv 33 3),Gt 31 (Op 34 (.istr (.t 32) (.t 33))),Gt 31 (Op 35 (.bin .neq (.t 34) (.c (.int .u8 45)))),Pa 36 31 35]
def alm:LO:=[Mc 2 (.bool false)]
def alk:LO:=[Bc 37 .add 6 1,Mv 6 37]
def GJ:ACode:=(Sr alp (Sq (Cx 7 0) (Sq (Bk 1 (Sr alo (Sr aln (Ci 36 (Rr alm))))) (Rg alk))))
def Nk:LO:=[Mv 38 0,Ln 39 1 38,Bc 40 .geq 39 1,Mv 41 40,Gt 41 (Mv 42 0),Gt 41 (Ln 43 1 42),Gt 41 (Bc 44 .leq 43 32),Pa 45 41 44,Mv 2 45]
def f442 : AFunc := ⟨46, 1, false, [.t 2], (Sr alr (Sq (Sr alq (Bl 0 GJ)) (Rr Nk)))⟩
def Qn:LI:=[.inLoop GJ, .inBlock 0, .code (Rr Nk)]
def apw:LO:=[Op 2 (.box (.t 0)),Mc 4 (.int .i64 0),Mc 5 (.bool false)]
def apv:LO:=[Fa 7 0 2,Ld 8 7,Ln 9 0 8,Mc 10 (.int .i64 0)]
def apu:LO:=[Bi 11 .lss 10 9]
def apt:LO:=[Mv 12 10,Mv 6 12]
def aps:LO:=[Fa 13 0 2,Ld 14 13,Mv 15 6,Ia 16 25 14 15,Fa 17 0 16,Ld 18 17,Mv 19 1,Bi 20 .eql 18 19]
def apr:LO:=[Mv 21 6,Mv 4 21,Mc 5 (.bool true)]
def apq:LO:=[Bc 22 .add 10 1,Mv 10 22]
def Jd:ACode:=(Sr apu (Sq (Cx 11 0) (Sq (Bk 1 (Sr apt (Sr aps (Ci 20 (Rr apr))))) (Rg apq))))
def NQ:LO:=[Mc 4 (.int .i64 0),Mc 5 (.bool false)]
def f387 : AFunc := ⟨23, 2, false, [.t 4, .t 5], (Sr apw (Sq (Sr apv (Bl 0 Jd)) (Rr NQ)))⟩
def Qr:LI:=[.inLoop Jd, .inBlock 0, .code (Rr NQ)]
def alj:LO:=[Op 1 (.box (.t 0)),Mc 2 (.int .i64 0)]
def ali:LO:=[Fa 9 0 1,Ld 10 9,Op 11 (.bin .eql (.t 10) (.c (.int .u32 0)))]
def alh:LO:=[Mc 2 (.int .i64 5)]
def alg:LO:=[Fa 12 1 1,Ld 13 12,Ln 14 0 13,Bc 15 .eql 14 0]
def alf:LO:=[Mc 2 (.int .i64 1)]
def ale:LO:=[Fa 16 1 1,Ld 17 16,Ln 18 0 17,Bc 19 .gtr 18 16,Mv 20 19,Gf 20 (Fa 21 2 1),Gf 20 (Ld 22 21),Gf 20 (Ln 23 0 22),Gf 20 (Bc 24 .gtr 23 64),Po 25 20 24]
def ald:LO:=[Mc 2 (.int .i64 4)]
def alc:LO:=[Mc 3 (.int .i64 0)]
def alb:LO:=[Mv 26 3,Fa 27 1 1,Ld 28 27,Ln 29 0 28,Bi 30 .lss 26 29]
def ala:LO:=[Fa 33 1 1,Ld 34 33,Mv 35 3,Ia 36 9 34 35,Ls 37 9 36,Ct 38 493 [37],Mv 4 38]
def Yu:LO:=[Mv 39 4,Bc 40 .neq 39 0]
def Yt:LO:=[Mv 41 4,Mv 2 41]
def Yq:LO:=[Mv 31 3,Bc 32 .add 31 1,Mv 3 32]
def z6:ACode:=(Sq (Sr alb (Cx 30 0)) (Sq (Bk 1 (Sr ala (Sr Yu (Ci 40 (Rr Yt))))) (Rg Yq)))
def GH:LO:=[Mc 5 (.int .i64 0)]
def Yp:LO:=[Mv 42 5,Fa 43 1 1,Ld 44 43,Ln 45 0 44,Bi 46 .lss 42 45]
def Yo:LO:=[Mc 6 (.int .i64 0)]
def Yn:LO:=[Mv 49 6,Mv 50 5,Bi 51 .lss 49 50]
def Ym:LO:=[Fa 54 1 1,Ld 55 54,Mv 56 5,Af [1] (Ia 57 9 55 56),Fa 58 1 57,Af [3, 1] (Ls 59 2 58),Fa 60 1 1,Ld 61 60,Mv 62 6,Af [7] (Ia 63 9 61 62),Fa 64 1 63,Af [9, 7] (Ls 65 2 64),Af [5, 11, 3, 1, 9, 7] (Ct 66 494 [59, 65])]
def Yl:LO:=[Mc 2 (.int .i64 7)]
def Yk:LO:=[Mv 52 6,Bc 53 .add 52 1,Mv 6 53]
def zY:ACode:=(Sq (Sr Yn (Cx 51 4)) (Sq (Bk 5 (Sq (Rd Ym) (Ci 66 (Rr Yl)))) (Rg Yk)))
def GG:LO:=[Mv 47 5,Bc 48 .add 47 1,Mv 5 48]
def mj:ACode:=(Sq (Sr Yp (Cx 46 2)) (Sq (Bk 3 (Sr Yo (Bl 4 zY))) (Rg GG)))
def ox:LO:=[Mc 7 (.int .i64 0)]
def Yj:LO:=[Mv 67 7,Fa 68 2 1,Ld 69 68,Ln 70 0 69,Bi 71 .lss 67 70]
def Yi:LO:=[Fa 74 2 1,Ld 75 74,Mv 76 7,Ia 77 4 75 76,Ls 78 4 77,Op 8 (.alloc (.agg sN)),St 4 8 78]
def Yh:LO:=[Fa 79 1 8,Fa 80 0 79,Ld 81 80,Fa 82 1 8,Fa 83 1 82,Ld 84 83,Ct 85 495 [81, 84],Un 86 .not 85]
def Yg:LO:=[Mc 2 (.int .i64 1)]
def Yf:LO:=[Mv 87 7,Bc 88 .gtr 87 0,Mv 89 88,Gt 89 (Fa 90 2 1),Gt 89 (Ld 91 90),Gt 89 (Mv 92 7),Gt 89 (Bc 93 .sub 92 1),Gt 89 (Mv 94 7),Gt 89 (Bc 95 .add 94 1),Gt 89 (Op 96 (.slc 4 (.t 91) (some (.t 93)) (some (.t 95)) none)),Gt 89 (Ct 97 496 [96]),Gt 89 (Un 98 .not 97),Pa 99 89 98]
def Ye:LO:=[Mc 2 (.int .i64 16)]
def Yd:LO:=[Mv 72 7,Bc 73 .add 72 1,Mv 7 73]
def jP:ACode:=(Sq (Sr Yj (Cx 71 6)) (Sq (Bk 7 (Sr Yi (Sq (Sr Yh (Ci 86 (Rr Yg))) (Sr Yf (Ci 99 (Rr Ye)))))) (Rg Yd)))
def kW:LO:=[Mc 2 (.int .i64 0)]
def f443 : AFunc := ⟨100, 1, false, [.t 2], (Sr alj (Sq (Sr ali (Ci 11 (Rr alh))) (Sq (Sr alg (Ci 15 (Rr alf))) (Sq (Sr ale (Ci 25 (Rr ald))) (Sq (Sr alc (Bl 0 z6)) (Sq (Sr GH (Bl 2 mj)) (Sq (Sr ox (Bl 6 jP)) (Rr kW))))))))⟩
def Nj:LI:=[.inLoop z6, .inBlock 0, .code (Sq (Sr GH (Bl 2 mj)) (Sq (Sr ox (Bl 6 jP)) (Rr kW)))]
def v8:LI:=[.inLoop mj, .inBlock 2, .code (Sq (Sr ox (Bl 6 jP)) (Rr kW))]
def Ni:LI:=[.inLoop zY, .inBlock 4, .inBlock 3, .code (Rg GG), .inLoop mj, .inBlock 2, .code (Sq (Sr ox (Bl 6 jP)) (Rr kW))]
def Nh:LI:=[.inLoop jP, .inBlock 6, .code (Rr kW)]
def ak9:LO:=[Op 1 (.box (.t 0)),Mc 2 (.int .i64 0)]
def ak8:LO:=[Fa 12 0 1,Ld 13 12,Ct 14 497 [13],Mv 3 14]
def ak7:LO:=[Mv 15 3,Bc 16 .neq 15 0]
def ak6:LO:=[Mv 17 3,Mv 2 17]
def ak5:LO:=[Fa 18 1 1,Ld 19 18,Ct 20 498 [19],Mv 4 20]
def ak4:LO:=[Mv 21 4,Bc 22 .neq 21 0]
def ak3:LO:=[Mv 23 4,Mv 2 23]
def ak2:LO:=[Fa 24 2 1,Ld 25 24,Ct 26 499 [25],Mv 5 26]
def ak1:LO:=[Mv 27 5,Bc 28 .neq 27 0]
def ak0:LO:=[Mv 29 5,Mv 2 29]
def Yc:LO:=[Fa 30 3 1,Ld 31 30,Ln 32 0 31,Bc 33 .gtr 32 64]
def Yb:LO:=[Mc 2 (.int .i64 4)]
def Ya:LO:=[Mc 6 (.str [])]
def XZ:LO:=[Fa 34 3 1,Ld 35 34,Ln 36 0 35,Mc 37 (.int .i64 0)]
def XY:LO:=[Bi 38 .lss 37 36]
def XX:LO:=[Mv 39 37,Ia 40 3 35 37,Ls 41 3 40,Op 8 (.alloc (.agg zz8)),Mv 7 39,St 3 8 41]
def XW:LO:=[Fa 42 0 8,Ld 43 42,Mv 44 6,Mv 45 7,Bc 46 .eql 45 0,Fa 47 1 8,Ld 48 47,Ln 49 0 48,Ct 50 500 [43, 44, 46, 49],Mv 9 50]
def XV:LO:=[Mv 51 9,Bc 52 .neq 51 0]
def XU:LO:=[Mv 53 9,Mv 2 53]
def XT:LO:=[Fa 54 0 8,Ld 55 54,Mv 6 55]
def XQ:LO:=[Fa 56 1 8,Ld 57 56,Ln 58 0 57,Mc 59 (.int .i64 0)]
def XP:LO:=[Bi 60 .lss 59 58]
def XO:LO:=[Mv 61 59,Mv 10 61]
def Xz:LO:=[Ls 62 4 1,Ls 63 3 8,Mv 64 10,Ct 65 501 [62, 63, 64],Mv 11 65]
def Xy:LO:=[Mv 66 11,Bc 67 .neq 66 0]
def Xx:LO:=[Mv 68 11,Mv 2 68]
def Xw:LO:=[Bc 69 .add 59 1,Mv 59 69]
def zX:ACode:=(Sr XP (Sq (Cx 60 2) (Sq (Bk 3 (Sr XO (Sr Xz (Sr Xy (Ci 67 (Rr Xx)))))) (Rg Xw))))
def GF:LO:=[Fa 70 2 8,Ld 71 70,Bc 72 .neq 71 1,Mv 73 72,Gt 73 (Fa 74 2 8),Gt 73 (Ld 75 74),Gt 73 (Bc 76 .neq 75 2),Pa 77 73 76]
def GC:LO:=[Mc 2 (.int .i64 15)]
def GB:LO:=[Bc 78 .add 37 1,Mv 37 78]
def qp:ACode:=(Sr XY (Sq (Cx 38 0) (Sq (Bk 1 (Sr XX (Sq (Sr XW (Sr XV (Ci 52 (Rr XU)))) (Sr XT (Sq (Sr XQ (Bl 2 zX)) (Sr GF (Ci 77 (Rr GC)))))))) (Rg GB))))
def t7:LO:=[Mc 2 (.int .i64 0)]
def f444 : AFunc := ⟨79, 1, false, [.t 2], (Sr ak9 (Sq (Sr ak8 (Sr ak7 (Ci 16 (Rr ak6)))) (Sq (Sr ak5 (Sr ak4 (Ci 22 (Rr ak3)))) (Sq (Sr ak2 (Sr ak1 (Ci 28 (Rr ak0)))) (Sq (Sr Yc (Ci 33 (Rr Yb))) (Sr Ya (Sq (Sr XZ (Bl 0 qp)) (Rr t7))))))))⟩
def v7:LI:=[.inLoop qp, .inBlock 0, .code (Rr t7)]
def Ng:LI:=[.inLoop zX, .inBlock 2, .code (Sr GF (Ci 77 (Rr GC))), .inBlock 1, .code (Rg GB), .inLoop qp, .inBlock 0, .code (Rr t7)]
def akZ:LO:=[Op 1 (.box (.t 0)),Mc 2 (.int .i64 0)]
def akY:LO:=[Fa 10 0 1,Ld 11 10,Bc 12 .lss 11 1,Mv 13 12,Gf 13 (Fa 14 0 1),Gf 13 (Ld 15 14),Gf 13 (Bc 16 .gtr 15 4294967295),Po 17 13 16,Mv 18 17,Gf 18 (Fa 19 1 1),Gf 18 (Ld 20 19),Gf 18 (Bc 21 .lss 20 0),Po 22 18 21,Mv 23 22,Gf 23 (Fa 24 1 1),Gf 23 (Ld 25 24),Gf 23 (Bc 26 .gtr 25 4294967295),Po 27 23 26,Mv 9 27]
def akX:LO:=[Mc 2 (.int .i64 5)]
def akW:LO:=[Fa 29 1 1,Ld 30 29,Fa 31 0 1,Ld 32 31,Bi 33 .eql 30 32,Mv 28 33]
def akV:LO:=[Mc 2 (.int .i64 14)]
def akU:LO:=[Fa 35 2 1,Ld 36 35,Op 37 (.bin .eql (.t 36) (.c (.int .u32 0))),Mv 34 37]
def akT:LO:=[Mc 2 (.int .i64 1)]
def akS:LO:=[Fa 39 4 1,Ld 40 39,Ln 41 0 40,Bc 42 .gtr 41 16,Mv 43 42,Gf 43 (Fa 44 5 1),Gf 43 (Ld 45 44),Gf 43 (Ln 46 0 45),Gf 43 (Bc 47 .gtr 46 2000),Po 48 43 47,Mv 38 48]
def akR:LO:=[Mc 2 (.int .i64 4)]
def akQ:LO:=[Fa 49 6 1,Ls 50 4 49,Ct 51 444 [50],Mv 3 51]
def Xv:LO:=[Mv 52 3,Bc 53 .neq 52 0]
def Xu:LO:=[Mv 54 3,Mv 2 54]
def Xq:LO:=[Fa 55 5 1,Ld 56 55,Ln 57 0 56,Mc 58 (.int .i64 0)]
def Xp:LO:=[Bi 59 .lss 58 57]
def Xo:LO:=[Mv 60 58,Ia 61 2 56 58,Ls 62 2 61,Op 5 (.alloc (.agg zz5)),Mv 4 60,St 2 5 62]
def Xn:LO:=[Ls 63 2 5,Ct 64 179 [63],Un 65 .not 64]
def Xm:LO:=[Mc 2 (.int .i64 1)]
def Xl:LO:=[Mv 66 4,Bc 67 .gtr 66 0,Mv 68 67,Gt 68 (Fa 69 5 1),Gt 68 (Ld 70 69),Gt 68 (Mv 71 4),Gt 68 (Bc 72 .sub 71 1),Af [4] (Gt 68 (Ia 73 2 70 72)),Af [7, 4] (Gt 68 (Ls 74 2 73)),Gt 68 (Ls 75 2 5),Af [8, 9, 7, 4] (Gt 68 (Ct 76 180 [74, 75])),Gt 68 (Bc 77 .geq 76 0),Pa 78 68 77]
def Xk:LO:=[Mc 2 (.int .i64 16)]
def Xh:LO:=[Bc 79 .add 58 1,Mv 58 79]
def zW:ACode:=(Sr Xp (Sq (Cx 59 1) (Sq (Bk 2 (Sr Xo (Sq (Sr Xn (Ci 65 (Rr Xm))) (Sq (Rd Xl) (Ci 78 (Rr Xk)))))) (Rg Xh))))
def GA:LO:=[Fa 80 10 1,Ls 81 4 80,Op 82 (.build [.int .i64 0, .int .i64 0, .int .i64 0, .int .i64 0] [] []),Op 83 (.eqs [.int, .int, .int, .int] true (.t 81) (.t 82))]
def Gz:LO:=[Fa 84 10 1,Ls 85 4 84,Ct 86 502 [85],Mv 6 86]
def Gy:LO:=[Mv 87 6,Bc 88 .neq 87 0]
def Gx:LO:=[Mv 89 6,Mv 2 89]
def Gw:LO:=[Fa 90 14 1,Ld 91 90,Bc 92 .lss 91 0,Mv 93 92,Gf 93 (Fa 94 14 1),Gf 93 (Ld 95 94),Gf 93 (Bc 96 .gtr 95 16),Po 97 93 96]
def Gv:LO:=[Mc 2 (.int .i64 5)]
def Gu:LO:=[Fa 98 4 1,Ld 99 98,Ln 100 0 99,Mc 101 (.int .i64 0)]
def Xg:LO:=[Bi 102 .lss 101 100]
def Xf:LO:=[Mv 103 101,Mv 7 103]
def Xd:LO:=[Ls 104 15 1,Mv 105 7,Ct 106 503 [104, 105],Mv 8 106]
def Xc:LO:=[Mv 107 8,Bc 108 .neq 107 0]
def Xb:LO:=[Mv 109 8,Mv 2 109]
def Xa:LO:=[Bc 110 .add 101 1,Mv 101 110]
def qn:ACode:=(Sr Xg (Sq (Cx 102 3) (Sq (Bk 4 (Sr Xf (Sr Xd (Sr Xc (Ci 108 (Rr Xb)))))) (Rg Xa))))
def t6:LO:=[Mc 2 (.int .i64 0)]
def f445 : AFunc := ⟨111, 1, false, [.t 2], (Sr akZ (Sq (Bk 0 (Sr akY (Cn 9 (Rr akX) (Sr akW (Cn 28 (Rr akV) (Sr akU (Cn 34 (Rr akT) (Sr akS (Ci 38 (Rr akR)))))))))) (Sq (Sr akQ (Sr Xv (Ci 53 (Rr Xu)))) (Sq (Sr Xq (Bl 1 zW)) (Sq (Sr GA (Cn 83 (Sr Gz (Sr Gy (Ci 88 (Rr Gx)))) Sk)) (Sq (Sr Gw (Ci 97 (Rr Gv))) (Sq (Sr Gu (Bl 3 qn)) (Rr t6))))))))⟩
def Nf:LI:=[.inLoop zW, .inBlock 1, .code (Sq (Sr GA (Cn 83 (Sr Gz (Sr Gy (Ci 88 (Rr Gx)))) Sk)) (Sq (Sr Gw (Ci 97 (Rr Gv))) (Sq (Sr Gu (Bl 3 qn)) (Rr t6))))]
def Nd:LI:=[.inLoop qn, .inBlock 3, .code (Rr t6)]
def akP:LO:=[Op 2 (.box (.t 0)),Mc 4 (.int .i64 0)]
def akO:LO:=[Ls 10 4 2,Ct 11 444 [10],Mv 5 11]
def akN:LO:=[Mv 12 5,Bc 13 .neq 12 0]
def akM:LO:=[Mv 14 5,Mv 4 14]
def akL:LO:=[Mv 15 1,Ln 16 0 15,Bc 17 .gtr 16 64]
def akK:LO:=[Mc 4 (.int .i64 4)]
def akJ:LO:=[Mv 18 1,Ln 19 0 18,Mc 20 (.int .i64 0)]
def akI:LO:=[Bi 21 .lss 20 19]
def akH:LO:=[Ia 22 5 18 20,Ls 23 5 22,Op 7 (.alloc (.agg xP)),St 5 7 23]
def akG:LO:=[Fa 25 0 7,Ld 26 25,Bc 27 .lss 26 1,Mv 28 27,Gf 28 (Fa 29 0 7),Gf 28 (Ld 30 29),Gf 28 (Bc 31 .gtr 30 7),Po 32 28 31,Mv 33 32,Gf 33 (Fa 34 1 7),Gf 33 (Ld 35 34),Gf 33 (Bc 36 .neq 35 5),Gf 33 (Mv 37 36),Gt 37 (Fa 38 1 7),Gt 37 (Ld 39 38),Gt 37 (Bc 40 .neq 39 6),Gf 33 (Pa 41 37 40),Po 42 33 41,Mv 24 42]
def W9:LO:=[Mc 4 (.int .i64 15)]
def W8:LO:=[Fa 44 1 7,Ld 45 44,Bc 46 .eql 45 5,Mv 47 46,Gt 47 (Fa 48 0 7),Gt 47 (Ld 49 48),Gt 47 (Ct 50 504 [49]),Pa 51 47 50,Mv 52 51,Gf 52 (Fa 53 1 7),Gf 52 (Ld 54 53),Gf 52 (Bc 55 .eql 54 6),Gf 52 (Mv 56 55),Gt 56 (Fa 57 0 7),Gt 56 (Ld 58 57),Gt 56 (Ct 59 505 [58]),Gf 52 (Pa 60 56 59),Po 61 52 60,Mv 43 61]
def W7:LO:=[Mc 4 (.int .i64 1)]
def W6:LO:=[Fa 63 3 7,Ld 64 63,Bc 65 .lss 64 0,Mv 66 65,Gf 66 (Fa 67 3 7),Gf 66 (Ld 68 67),Gf 66 (Bc 69 .gtr 68 16777216),Po 70 66 69,Mv 62 70]
def W5:LO:=[Mc 4 (.int .i64 5)]
def W4:LO:=[Ls 72 4 2,Fa 73 2 7,Ld 74 73,Ct 75 506 [72, 74],Mv 71 75,Ex 76 71 0,Ex 77 71 1,Op 8 (.alloc (.agg zz8)),St 3 8 76,Mv 9 77]
def W3:LO:=[Fa 78 2 7,Ld 79 78,Op 80 (.bin .neq (.t 79) (.c (.str []))),Mv 81 80,Gt 81 (Mv 82 9),Gt 81 (Un 83 .not 82),Pa 84 81 83]
def WZ:LO:=[Mc 4 (.int .i64 6)]
def WY:LO:=[Bc 85 .add 20 1,Mv 20 85]
def zU:ACode:=(Sr akI (Sq (Cx 21 0) (Sq (Bk 1 (Sr akH (Sq (Bk 2 (Sr akG (Cn 24 (Rr W9) (Sr W8 (Cn 43 (Rr W7) (Sr W6 (Ci 62 (Rr W5)))))))) (Sr W4 (Sr W3 (Ci 84 (Rr WZ))))))) (Rg WY))))
def Gr:LO:=[Mc 4 (.int .i64 0)]
def f446 : AFunc := ⟨86, 2, false, [.t 4], (Sr akP (Sq (Sr akO (Sr akN (Ci 13 (Rr akM)))) (Sq (Sr akL (Ci 17 (Rr akK))) (Sq (Sr akJ (Bl 0 zU)) (Rr Gr)))))⟩
def Nb:LI:=[.inLoop zU, .inBlock 0, .code (Rr Gr)]
def as7:LO:=[Op 1 (.box (.t 0)),Mc 2 (.bool false)]
def as6:LO:=[Fa 3 1 1,Ld 4 3,Bc 5 .geq 4 0,Mv 6 5,Gt 6 (Fa 7 1 1),Af [1] (Gt 6 (Ld 8 7)),Gt 6 (Bc 9 .leq 8 32),Pa 10 6 9,Mv 11 10,Gt 11 (Fa 12 0 1),Af [5, 1] (Gt 11 (Ld 13 12)),Gt 11 (Fa 14 1 1),Af [5, 1] (Gt 11 (Ld 15 14)),Af [10, 12, 5, 1] (Gt 11 (Ct 16 182 [13, 15])),Gt 11 (Fa 17 0 1),Af [5, 1] (Gt 11 (Ld 18 17)),Gt 11 (Bi 19 .eql 16 18),Pa 20 11 19,Mv 2 20]
def f179 : AFunc := ⟨21, 1, false, [.t 2], (Sr as7 (Sq (Rd as6) Rt))⟩
def akF:LO:=[Op 2 (.box (.t 0)),Mc 4 (.int .i64 0)]
def akE:LO:=[Fa 13 1 2,Ld 14 13,Mv 15 1,Ia 16 2 14 15,Fa 17 0 16,Ld 18 17,Mv 5 18]
def akD:LO:=[Mv 19 5,Ln 20 0 19,Mc 21 (.int .i64 0)]
def akC:LO:=[Bi 22 .lss 21 20]
def akB:LO:=[Mv 23 21,Mv 6 23]
def akA:LO:=[Ls 25 2 2,Mv 26 5,Mv 27 6,Ia 28 2 26 27,Af [3] (Ls 29 2 28),Af [0, 4, 3] (Ct 30 429 [25, 29]),Mv 24 30,Ex 31 24 0,Ex 32 24 1,Op 7 (.alloc (.agg zz3)),Af [9, 5, 0, 4, 3] (St 9 7 31),Mv 8 32]
def akz:LO:=[Mv 33 8,Un 34 .not 33]
def aky:LO:=[Mc 4 (.int .i64 5)]
def akx:LO:=[Mv 35 1,Mc 36 (.int .i64 0)]
def akw:LO:=[Bi 37 .lss 36 35]
def WX:LO:=[Mv 38 36,Mv 9 38]
def WU:LO:=[Fa 39 1 2,Ld 40 39,Mv 41 9,Ia 42 2 40 41,Fa 43 0 42,Ld 44 43,Ln 45 0 44,Mc 46 (.int .i64 0)]
def WQ:LO:=[Bi 47 .lss 46 45]
def WO:LO:=[Mv 48 46,Mv 10 48]
def WN:LO:=[Fa 49 1 2,Ld 50 49,Mv 51 9,Af [1] (Ia 52 2 50 51),Fa 53 0 52,Af [3, 1] (Ld 54 53),Mv 55 10,Af [5, 3, 1] (Ia 56 2 54 55),Af [7, 5, 3, 1] (Ls 57 2 56),Mv 58 5,Mv 59 6,Ia 60 2 58 59,Af [11] (Ls 61 2 60),Op 62 (.eqs [.int, .int] false (.t 57) (.t 61))]
def WM:LO:=[Mc 4 (.int .i64 7)]
def WL:LO:=[Bc 63 .add 46 1,Mv 46 63]
def zT:ACode:=(Sr WQ (Sq (Cx 47 4) (Sq (Bk 5 (Sr WO (Sq (Rd WN) (Ci 62 (Rr WM))))) (Rg WL))))
def Gq:LO:=[Bc 64 .add 36 1,Mv 36 64]
def qm:ACode:=(Sr akw (Sq (Cx 37 2) (Sq (Bk 3 (Sr WX (Sr WU (Bl 4 zT)))) (Rg Gq))))
def tZ:LO:=[Mv 65 6,Mc 66 (.int .i64 0)]
def WH:LO:=[Bi 67 .lss 66 65]
def WG:LO:=[Mv 68 66,Mv 11 68]
def WE:LO:=[Mv 69 5,Mv 70 11,Ia 71 2 69 70,Af [2] (Ls 72 2 71),Mv 73 5,Mv 74 6,Ia 75 2 73 74,Af [6] (Ls 76 2 75),Op 77 (.eqs [.int, .int] false (.t 72) (.t 76))]
def WD:LO:=[Mc 4 (.int .i64 7)]
def WC:LO:=[Bc 78 .add 66 1,Mv 66 78]
def mi:ACode:=(Sr WH (Sq (Cx 67 6) (Sq (Bk 7 (Sr WG (Sq (Rd WE) (Ci 77 (Rr WD))))) (Rg WC))))
def ow:LO:=[Mv 79 6,Mc 80 (.int .i64 0)]
def WB:LO:=[Bi 81 .lss 80 79]
def WA:LO:=[Mv 82 80,Mv 12 82]
def Wz:LO:=[Mv 83 5,Mv 84 12,Ia 85 2 83 84,Fa 86 0 85,Af [2] (Ld 87 86),Mv 88 5,Mv 89 6,Ia 90 2 88 89,Fa 91 0 90,Af [7] (Ld 92 91),Bi 93 .eql 87 92]
def Wy:LO:=[Mc 4 (.int .i64 1)]
def Wx:LO:=[Bc 94 .add 80 1,Mv 80 94]
def jO:ACode:=(Sr WB (Sq (Cx 81 8) (Sq (Bk 9 (Sr WA (Sq (Rd Wz) (Ci 93 (Rr Wy))))) (Rg Wx))))
def kU:LO:=[Bc 95 .add 21 1,Mv 21 95]
def iq:ACode:=(Sr akC (Sq (Cx 22 0) (Sq (Bk 1 (Sr akB (Sq (Rd akA) (Sq (Sr akz (Ci 34 (Rr aky))) (Sq (Sr akx (Bl 2 qm)) (Sq (Sr tZ (Bl 6 mi)) (Sr ow (Bl 8 jO)))))))) (Rg kU))))
def jq:LO:=[Mc 4 (.int .i64 0)]
def f447 : AFunc := ⟨96, 2, false, [.t 4], (Sr akF (Sr akE (Sq (Sr akD (Bl 0 iq)) (Rr jq))))⟩
def vV:LI:=[.inLoop iq, .inBlock 0, .code (Rr jq)]
def v6:LI:=[.inLoop qm, .inBlock 2, .code (Sq (Sr tZ (Bl 6 mi)) (Sr ow (Bl 8 jO))), .inBlock 1, .code (Rg kU), .inLoop iq, .inBlock 0, .code (Rr jq)]
def Na:LI:=[.inLoop zT, .inBlock 4, .inBlock 3, .code (Rg Gq), .inLoop qm, .inBlock 2, .code (Sq (Sr tZ (Bl 6 mi)) (Sr ow (Bl 8 jO))), .inBlock 1, .code (Rg kU), .inLoop iq, .inBlock 0, .code (Rr jq)]
def vZ:LI:=[.inLoop mi, .inBlock 6, .code (Sr ow (Bl 8 jO)), .inBlock 1, .code (Rg kU), .inLoop iq, .inBlock 0, .code (Rr jq)]
def vY:LI:=[.inLoop jO, .inBlock 8, .inBlock 1, .code (Rg kU), .inLoop iq, .inBlock 0, .code (Rr jq)]
def amC:LO:=[Op 2 (.box (.t 0)),Op 3 (.box (.t 1)),Op 4 (.alloc (.agg zz3)),Mc 5 (.bool false)]
def amB:LO:=[Fa 7 0 3,Ld 8 7,Bc 9 .lss 8 0,Mv 10 9,Gf 10 (Fa 11 0 3),Gf 10 (Ld 12 11),Gf 10 (Fa 13 0 2),Gf 10 (Ld 14 13),Gf 10 (Ln 15 0 14),Gf 10 (Bi 16 .geq 12 15),Po 17 10 16]
def amA:LO:=[Op 18 (.build zz3 [] []),St 9 4 18,Mc 5 (.bool false)]
def amz:LO:=[Fa 19 0 2,Ld 20 19,Fa 21 0 3,Ld 22 21,Ia 23 25 20 22,Fa 24 1 23,Fa 25 1 24,Ld 26 25,Mv 6 26]
def amy:LO:=[Fa 27 1 3,Ld 28 27,Bc 29 .lss 28 0,Mv 30 29,Gf 30 (Fa 31 1 3),Gf 30 (Ld 32 31),Gf 30 (Mv 33 6),Gf 30 (Ln 34 0 33),Gf 30 (Bi 35 .geq 32 34),Po 36 30 35]
def amx:LO:=[Op 37 (.build zz3 [] []),St 9 4 37,Mc 5 (.bool false)]
def amw:LO:=[Mv 38 6,Fa 39 1 3,Ld 40 39,Ia 41 9 38 40,Ls 42 9 41,St 9 4 42,Mc 5 (.bool true)]
def f429 : AFunc := ⟨43, 2, false, [.cell 4 (some 9), .t 5], (Sr amC (Sq (Sr amB (Ci 17 (Rr amA))) (Sr amz (Sq (Sr amy (Ci 36 (Rr amx))) (Rr amw)))))⟩
def aru:LO:=[Mc 2 (.con (.slice none 0 0)),Mc 3 (.int .i64 0)]
def art:LO:=[Mv 7 0,Op 8 (.bin .eql (.t 7) (.c (.str [])))]
def ars:LO:=[Mc 2 (.con (.slice none 0 0)),Mc 3 (.int .i64 0)]
def arq:LO:=[Mv 9 0,Ca 10 345 [(.t 9), (.c (.str [10]))]]
def arp:LO:=[Mc 2 (.con (.slice none 0 0)),Mc 3 (.int .i64 2)]
def aro:LO:=[Mv 11 0,Ca 12 249 [(.t 11), (.c (.str [32]))],Mv 4 12]
def arn:LO:=[Mv 13 4,Ln 14 0 13,Mc 15 (.int .i64 0)]
def arm:LO:=[Bi 16 .lss 15 14]
def arl:LO:=[Ia 17 1 13 15,Ld 18 17,Mv 6 18]
def ark:LO:=[Mv 19 6,Op 20 (.bin .eql (.t 19) (.c (.str [])))]
def acB:LO:=[Mc 2 (.con (.slice none 0 0)),Mc 3 (.int .i64 2)]
def acA:LO:=[Bc 21 .add 15 1,Mv 15 21]
def Bg:ACode:=(Sr arm (Sq (Cx 16 0) (Sq (Bk 1 (Sr arl (Sr ark (Ci 20 (Rr acB))))) (Rg acA))))
def JK:LO:=[Mv 22 4,Mv 2 22,Mc 3 (.int .i64 0)]
def f339 : AFunc := ⟨23, 1, false, [.t 2, .t 3], (Sr aru (Sq (Sr art (Ci 8 (Rr ars))) (Sq (Sr arq (Ci 10 (Rr arp))) (Sr aro (Sq (Sr arn (Bl 0 Bg)) (Rr JK))))))⟩
def akj:LO:=[Mc 4 (.bool false)]
def aki:LO:=[Mv 8 1,Ct 9 462 [8],Mv 7 9,Ex 10 7 0,Ex 11 7 1,Mv 5 10,Mv 6 11]
def akh:LO:=[Mv 13 1,Op 14 (.bin .eql (.t 13) (.c (.str [108, 105, 110, 107]))),Mv 12 14]
def akg:LO:=[Mv 15 0,Nc 16 15,Fa 17 2 16,Ld 18 17,Bc 19 .neq 18 8,Mv 4 19]
def akf:LO:=[Mv 21 5,Bc 22 .lss 21 0,Mv 23 22,Gf 23 (Mv 24 0),Gf 23 (Nc 25 24),Gf 23 (Fa 26 2 25),Gf 23 (Ld 27 26),Gf 23 (Bc 28 .eql 27 100),Po 29 23 28,Mv 20 29]
def ake:LO:=[Mc 4 (.bool false)]
def akd:LO:=[Mv 31 5,Bc 32 .eql 31 0,Mv 30 32]
def akc:LO:=[Mv 33 0,Nc 34 33,Fa 35 2 34,Ld 36 35,Bc 37 .neq 36 8,Mv 4 37]
def akb:LO:=[Mv 39 0,Nc 40 39,Fa 41 2 40,Ld 42 41,Bc 43 .eql 42 (-1),Mv 38 43]
def aka:LO:=[Mc 4 (.bool false)]
def Wq:LO:=[Mv 45 0,Nc 46 45,Fa 47 2 46,Ld 48 47,Bc 49 .eql 48 8,Mv 50 49,Gf 50 (Mv 51 5),Gf 50 (Bc 52 .eql 51 9),Po 53 50 52,Mv 44 53]
def Wo:LO:=[Mv 54 0,Nc 55 54,Fa 56 2 55,Ld 57 56,Bc 58 .eql 57 8,Mv 59 58,Gt 59 (Mv 60 5),Gt 59 (Bc 61 .eql 60 9),Pa 62 59 61,Mv 4 62]
def Wn:LO:=[Mv 64 5,Bc 65 .eql 64 10,Mv 66 65,Gf 66 (Mv 67 5),Gf 66 (Bc 68 .eql 67 11),Po 69 66 68,Mv 63 69]
def Wm:LO:=[Mv 70 0,Ct 71 419 [70],Nc 72 71,Fa 73 4 72,Ld 74 73,Un 75 .not 74]
def Wl:LO:=[Mc 4 (.bool false)]
def Wh:LO:=[Mv 76 5,Mv 77 0,Nc 78 77,Fa 79 2 78,Ld 80 79,Bi 81 .gtr 76 80,Mv 82 81,Gf 82 (Mv 83 6),Gf 82 (Mv 84 83),Gt 84 (Mv 85 5),Gt 84 (Mv 86 0),Gt 84 (Nc 87 86),Gt 84 (Fa 88 2 87),Gt 84 (Ld 89 88),Gt 84 (Bi 90 .eql 85 89),Gf 82 (Pa 91 84 90),Po 92 82 91,Mv 4 92]
def f460 : AFunc := ⟨93, 2, false, [.t 4], (Sr akj (Sr aki (Sq (Bk 0 (Sr akh (Cn 12 (Rr akg) (Sr akf (Cn 20 (Rr ake) (Sr akd (Cn 30 (Rr akc) (Sr akb (Cn 38 (Rr aka) (Sr Wq (Cn 44 (Rr Wo) (Sr Wn (Cn 63 (Sr Wm (Ci 75 (Rr Wl))) Sk))))))))))))) (Rr Wh))))⟩
def aj9:LO:=[Mc 4 (.int .i64 0)]
def aj8:LO:=[Mv 19 1,Ct 20 463 [19],Mv 18 20,Ex 21 18 0,Ex 22 18 1,Ex 23 18 2,Ex 24 18 3,Ex 25 18 4,Mv 5 21,Mv 6 22,Mv 7 23,Mv 8 24,Mv 9 25]
def aj7:LO:=[Mv 26 5,Op 27 (.call (.t 26) [(.c (.int .i64 1099511627776))]),Op 28 (.build sS [(1, 1)] [(.t 27)]),Op 10 (.alloc (.agg sS)),St 2 10 28]
def aj6:LO:=[Mc 11 (.bool false)]
def aj5:LO:=[Mv 29 1,Nc 30 29,Fa 31 0 30,Ld 32 31,Ln 33 0 32,Bc 34 .gtr 33 0]
def aj4:LO:=[Mv 36 1,Ct 37 531 [36],Ct 38 530 [37],Mv 35 38,Ex 39 35 0,Ex 40 35 1,Mv 12 39,Mv 13 40]
def aj3:LO:=[Mv 42 13,Ca 43 346 [(.t 42), (.c (.int .i64 1099511627776))],Mv 41 43,Ex 44 41 0,Ex 45 41 1,Mv 14 44,Mv 15 45]
def aj2:LO:=[Mv 46 1,Mv 47 1,Nc 48 47,Fa 49 1 48,Ld 50 49,Mv 51 50,Gf 51 (Mv 52 12),Gf 51 (Op 53 (.bin .eql (.t 52) (.c (.str [])))),Po 54 51 53,Mv 55 54,Gf 55 (Mv 56 15),Gf 55 (Bc 57 .neq 56 0),Po 58 55 57,Nc 59 46,Fa 60 1 59,St 1 60 58]
def aj1:LO:=[Mv 62 0,Nc 63 62,Fa 64 0 63,Ls 65 2 64,Mv 66 12,Ct 67 386 [65, 66],Mv 61 67,Ex 68 61 0,Ex 69 61 1,Mv 16 68,Mv 17 69]
def aj0:LO:=[Mv 70 11,Mv 71 70,Gf 71 (Mv 72 17),Gf 71 (Un 73 .not 72),Po 74 71 73,Mv 11 74]
def Wg:LO:=[Fa 75 0 10,Ld 76 75,Mv 77 16,Mv 78 14,Op 79 (.build zz7 [(0, 1), (1, 1)] [(.t 77), (.t 78)]),Op 80 (.bsl 2 zz7 1 [0] [(.t 79)]),Ap 81 2 16 76 80,Fa 82 0 10,St 1 82 81]
def zP:ACode:=(Sq (Sr aj5 (Cx 34 0)) (Bk 1 (Sr aj4 (Sr aj3 (Sr aj2 (Sr aj1 (Sr aj0 (Rg Wg))))))))
def Gn:LO:=[Mv 84 1,Nc 85 84,Fa 86 1 85,Ld 87 86,Mv 83 87]
def Gj:LO:=[Mc 4 (.int .i64 2)]
def Gh:LO:=[Mv 89 11,Mv 88 89]
def Gg:LO:=[Mc 4 (.int .i64 6)]
def Gc:LO:=[Mv 90 0,Mv 91 0,Nc 92 91,Fa 93 0 92,Fa 94 1 93,Ld 95 94,Ls 96 2 10,Af [6] (Op 97 (.bsl 2 sS 1 [0] [(.t 96)])),Af [5, 7, 6] (Ap 98 2 32 95 97),Nc 99 90,Fa 100 0 99,Fa 101 1 100,Af [8, 5, 7, 6] (St 1 101 98)]
def Gb:LO:=[Mc 4 (.int .i64 0)]
def f461 : AFunc := ⟨102, 2, false, [.t 4], (Sr aj9 (Sr aj8 (Sr aj7 (Sr aj6 (Sq (Bl 0 zP) (Sq (Bk 2 (Sr Gn (Cn 83 (Rr Gj) (Sr Gh (Ci 88 (Rr Gg)))))) (Sq (Rd Gc) (Rr Gb))))))))⟩
def ajZ:LO:=[Mc 2 (.int .i64 0),Mc 3 (.bool false)]
def ajY:LO:=[
 Op 6 (.build [.str [], .str [], .str [], .str [], .str [], .str [], .str [], .str [], .str [], .str [], .str [], .str [], .str []] [(0, 1), (1, 1), (2, 1), (3, 1), (4, 1), (5, 1), (6, 1), (7, 1), (8, 1), (9, 1), (10, 1), (11, 1), (12, 1)] [(.c (.str [114, 111, 117, 116, 101, 114])), (.c (.str [105, 102, 97, 99, 101])), (.c (.str [114, 97, 110, 103, 101])), (.c (.str [108, 97, 98, 101, 108, 115])), (.c (.str [114, 101, 114, 111, 117, 116, 101])), (.c (.str [100, 105, 115, 116, 97, 110, 99, 101, 115])), (.c (.str [115, 116, 97, 116, 105, 99])), (.c (.str [114, 101, 100, 105, 115, 116, 114, 105, 98, 117, 116, 101])), (.c (.str [115, 112, 101, 97, 107, 101, 114])), (.c (.str [100, 97, 109, 112, 105, 110, 103])), (.c (.str [112, 101, 101, 114])), (.c (.str [110, 101, 116, 119, 111, 114, 107])), (.c (.str [112, 111, 108, 105, 99, 105, 101, 115]))]),
 Mc 7 (.int .i64 0)]
def ajX:LO:=[Bc 8 .lss 7 13]
def ajW:LO:=[Mv 9 7,Op 10 (.ival 13 1 none (.t 6) (.t 7)),Mv 4 9,Mv 5 10]
def ajV:LO:=[Mv 11 5,Mv 12 0,Bi 13 .eql 11 12]
def ajU:LO:=[Mv 14 4,Mv 15 0,Op 16 (.bin .eql (.t 15) (.c (.str [105, 102, 97, 99, 101]))),Mv 17 16,Gf 17 (Mv 18 0),Gf 17 (Op 19 (.bin .eql (.t 18) (.c (.str [114, 97, 110, 103, 101])))),Po 20 17 19,Mv 21 20,Gf 21 (Mv 22 0),Gf 21 (Op 23 (.bin .eql (.t 22) (.c (.str [115, 116, 97, 116, 105, 99])))),Po 24 21 23,Mv 25 24,Gf 25 (Mv 26 0),
 Gf 25 (Op 27 (.bin .eql (.t 26) (.c (.str [114, 101, 100, 105, 115, 116, 114, 105, 98, 117, 116, 101])))),Po 28 25 27,Mv 29 28,Gf 29 (Mv 30 0),Gf 29 (Op 31 (.bin .eql (.t 30) (.c (.str [112, 101, 101, 114])))),Po 32 29 31,Mv 33 32,Gf 33 (Mv 34 0),Gf 33 (Op 35 (.bin .eql (.t 34) (.c (.str [110, 101, 116, 119, 111, 114, 107])))),Po 36 33 35,Mv 2 14,Mv 3 36]
def ajT:LO:=[Bc 37 .add 7 1,Mv 7 37]
def Ga:ACode:=(Sr ajX (Sq (Cx 8 0) (Sq (Bk 1 (Sr ajW (Sr ajV (Ci 13 (Rr ajU))))) (Rg ajT))))
def M9:LO:=[Mc 2 (.int .i64 (-1)),Mc 3 (.bool false)]
def f462 : AFunc := ⟨38, 1, false, [.t 2, .t 3], (Sr ajZ (Sq (Sr ajY (Bl 0 Ga)) (Rr M9)))⟩
def ajS:LO:=[Op 1 (.box (.t 0)),Mc 2 (.con (.nilFunc)),Mc 3 (.con (.nilFunc)),Mc 4 (.con (.nilFunc)),Mc 5 (.con (.nilFunc)),Mc 6 (.con (.nilFunc))]
def ajR:LO:=[Op 8 (.mkfn 532 [(.t 1)]),Op 7 (.alloc (.con (.nilFunc))),St 1 7 8]
def ajQ:LO:=[Op 9 (.mkfn 533 [(.t 1), (.t 7)]),Mv 2 9]
def ajP:LO:=[Op 10 (.mkfn 534 [(.t 1), (.t 7)]),Mv 3 10]
def ajO:LO:=[Op 11 (.mkfn 535 [(.t 1), (.t 7)]),Mv 4 11]
def ajN:LO:=[Op 12 (.mkfn 536 [(.t 1)]),Mv 5 12]
def ajM:LO:=[Op 13 (.mkfn 537 [(.t 1)]),Mv 6 13]
def ajL:LO:=[Mv 14 2,Mv 15 3,Mv 16 4,Mv 17 5,Mv 18 6,Mv 2 14,Mv 3 15,Mv 4 16,Mv 5 17,Mv 6 18]
def f463 : AFunc := ⟨19, 1, false, [.t 2, .t 3, .t 4, .t 5, .t 6], (Sr ajS (Sr ajR (Sr ajQ (Sr ajP (Sr ajO (Sr ajN (Sr ajM (Rr ajL))))))))⟩
def ajK:LO:=[Mv 16 2,Ct 17 463 [16],Mv 15 17,Ex 18 15 0,Ex 19 15 1,Ex 20 15 2,Ex 21 15 3,Ex 22 15 4,Mv 6 18,Mv 7 19,Mv 8 20,Mv 9 21,Mv 10 22]
def ajJ:LO:=[Ct 24 448 [],Mv 23 24,Ex 25 23 0,Ex 26 23 1,Op 11 (.alloc (.agg zz9)),Op 12 (.alloc (.agg zz9)),St 4 11 25,St 4 12 26]
def ajI:LO:=[Mv 27 1,Op 28 (.bin .eql (.t 27) (.c (.str [114, 111, 117, 116, 101, 114])))]
def ajH:LO:=[Mv 29 0,Mv 30 0,Nc 31 30,Fa 32 0 31,Fa 33 0 32,Ld 34 33,Mv 35 10,Op 36 (.call (.t 35) []),Mv 37 6,Af [7] (Op 38 (.call (.t 37) [(.c (.int .i64 4294967295))])),Cv 39 .u32 38,Op 40 (.build [.int .u32 0, .con (.slice none 0 0), .con (.slice none 0 0)] [(0, 1)] [(.t 39)]),Op 41 (.build zz4 [(0, 1), (1, 3)] [(.t 36), (.t 40)]),Af [9, 7] (Op 42 (.bsl 25 zz4 1 [0] [(.t 41)])),
 Af [5, 13, 9, 7] (Ap 43 25 368 34 42),Nc 44 29,Fa 45 0 44,Fa 46 0 45,Af [14, 5, 13, 9, 7] (St 1 46 43)]
def ajG:LO:=[Mv 47 0,Ct 48 419 [47],Mv 13 48]
def ajF:LO:=[Mv 49 1]
def ajE:LO:=[Op 51 (.bin .eql (.t 49) (.c (.str [105, 102, 97, 99, 101]))),Mv 50 51]
def ajD:LO:=[Mv 52 13,Mv 53 13,Nc 54 53,Fa 55 1 54,Fa 56 1 55,Ld 57 56,Mv 58 2,Ls 59 4 11,Af [7] (Ct 60 538 [58, 59]),Mv 61 7,Af [8, 7] (Op 62 (.call (.t 61) [])),Mv 63 8,Af [10, 8, 7] (Op 64 (.call (.t 63) [])),Mv 65 6,Af [12, 10, 8, 7] (Op 66 (.call (.t 65) [(.c (.int .i64 4294967295))])),Cv 67 .u32 66,Mv 68 6,Af [14, 12, 10, 8, 7] (Op 69 (.call (.t 68) [(.c (.int .i64 1099511627776))])),Mv 70 6,
 Af [17, 14, 12, 10, 8, 7] (Op 71 (.call (.t 70) [(.c (.int .i64 1099511627776))])),Mv 72 6,Af [19, 17, 14, 12, 10, 8, 7] (Op 73 (.call (.t 72) [(.c (.int .i64 1099511627776))])),Mv 74 6,Af [21, 19, 17, 14, 12, 10, 8, 7] (Op 75 (.call (.t 74) [(.c (.int .i64 1099511627776))])),
 Op 76 (.build zz3 [(0, 1), (1, 2), (3, 1), (4, 1), (5, 1), (6, 1), (7, 1), (8, 1)] [(.t 60), (.t 62), (.t 64), (.t 67), (.t 69), (.t 71), (.t 73), (.t 75)]),Af [23, 21, 19, 17, 14, 12, 10, 8, 7] (Op 77 (.bsl 9 zz3 1 [0] [(.t 76)])),Af [5, 25, 23, 21, 19, 17, 14, 12, 10, 8, 7] (Ap 78 9 64 57 77),Nc 79 52,Fa 80 1 79,Fa 81 1 80,Af [26, 5, 25, 23, 21, 19, 17, 14, 12, 10, 8, 7] (St 1 81 78)]
def ajC:LO:=[Op 83 (.bin .eql (.t 49) (.c (.str [114, 97, 110, 103, 101]))),Mv 82 83]
def ajB:LO:=[Mv 84 13,Mv 85 13,Nc 86 85,Fa 87 1 86,Fa 88 2 87,Ld 89 88,Mv 90 6,Op 91 (.call (.t 90) [(.c (.int .i64 4294967295))]),Cv 92 .u32 91,Mv 93 7,Af [7] (Op 94 (.call (.t 93) [])),Mv 95 9,Af [10, 7] (Op 96 (.call (.t 95) [])),Op 97 (.build sN [(0, 1), (1, 2), (3, 1)] [(.t 92), (.t 94), (.t 96)]),Af [12, 10, 7] (Op 98 (.bsl 4 sN 1 [0] [(.t 97)])),Af [5, 14, 12, 10, 7] (Ap 99 4 32 89 98),Nc 100 84,
 Fa 101 1 100,Fa 102 2 101,Af [15, 5, 14, 12, 10, 7] (St 1 102 99)]
def We:LO:=[Op 104 (.bin .eql (.t 49) (.c (.str [108, 97, 98, 101, 108, 115]))),Mv 103 104]
def Wd:LO:=[Mv 105 13,Nc 106 105,Fa 107 20 106,⟨none, .store 1 (.t 107) (.c (.bool true)), none, []⟩]
def Wc:LO:=[Op 109 (.bin .eql (.t 49) (.c (.str [114, 101, 114, 111, 117, 116, 101]))),Mv 108 109]
def Wb:LO:=[Mv 110 13,Nc 111 110,Fa 112 21 111,⟨none, .store 1 (.t 112) (.c (.bool true)), none, []⟩]
def Wa:LO:=[Op 114 (.bin .eql (.t 49) (.c (.str [100, 105, 115, 116, 97, 110, 99, 101, 115]))),Mv 113 114]
def V8:LO:=[Mv 115 13,Mv 116 13,Nc 117 116,Fa 118 24 117,Ld 119 118,Mv 120 6,Op 121 (.call (.t 120) [(.c (.int .i64 1099511627776))]),Af [6] (Op 122 (.bsl 1 sR 1 [0] [(.t 121)])),Af [4, 7, 6] (Ap 123 1 8 119 122),Nc 124 115,Fa 125 24 124,Af [8, 4, 7, 6] (St 1 125 123)]
def V7:LO:=[Mv 126 2,Nc 127 126,Fa 128 0 127,Ld 129 128,Ln 130 0 129,Bc 131 .gtr 130 0]
def V6:LO:=[Mv 132 13,Mv 133 13,Nc 134 133,Fa 135 24 134,Ld 136 135,Mv 137 6,Op 138 (.call (.t 137) [(.c (.int .i64 1099511627776))]),Af [6] (Op 139 (.bsl 1 sR 1 [0] [(.t 138)])),Af [4, 7, 6] (Ap 140 1 8 136 139),Nc 141 132,Fa 142 24 141,Af [8, 4, 7, 6] (St 1 142 140)]
def zO:ACode:=(Sq (Sr V7 (Cx 131 1)) (Bk 2 (Rd V6)))
def VZ:LO:=[Op 144 (.bin .eql (.t 49) (.c (.str [115, 116, 97, 116, 105, 99]))),Mv 143 144]
def VY:LO:=[Mv 145 7,Op 146 (.call (.t 145) []),Op 147 (.build sO [(0, 2)] [(.t 146)]),Op 14 (.alloc (.agg sO)),St 4 14 147]
def VV:LO:=[Mv 148 2,Nc 149 148,Fa 150 0 149,Ld 151 150,Ln 152 0 151,Bc 153 .gtr 152 0,Mv 154 153,Gt 154 (Mv 155 2),Gt 154 (Nc 156 155),Gt 154 (Fa 157 0 156),Gt 154 (Ld 158 157),Gt 154 (Op 159 (.iadr 1 (.t 158) (.c (.int .i64 0)))),Gt 154 (Ld 160 159),Gt 154 (Op 161 (.bin .eql (.t 160) (.c (.str [46])))),Pa 162 154 161]
def VU:LO:=[Mv 163 2,Ct 164 531 [163]]
def VT:LO:=[Mv 165 8,Op 166 (.call (.t 165) []),Fa 167 2 14,St 1 167 166]
def VR:LO:=[Mv 168 2,Mv 169 2,Nc 170 169,Fa 171 1 170,Ld 172 171,Mv 173 172,Gf 173 (Fa 174 2 14),Gf 173 (Ld 175 174),Gf 173 (Op 176 (.bin .eql (.t 175) (.c (.int .u32 0)))),Po 177 173 176,Nc 178 168,Fa 179 1 178,St 1 179 177]
def VO:LO:=[Mv 180 6,Op 181 (.call (.t 180) [(.c (.int .i64 1099511627776))]),Fa 182 3 14,St 1 182 181]
def VN:LO:=[Mv 183 13,Mv 184 13,Nc 185 184,Fa 186 23 185,Ld 187 186,Ls 188 4 14,Af [5] (Op 189 (.bsl 4 sO 1 [0] [(.t 188)])),Af [4, 6, 5] (Ap 190 4 32 187 189),Nc 191 183,Fa 192 23 191,Af [7, 4, 6, 5] (St 1 192 190)]
def VM:LO:=[Op 194 (.bin .eql (.t 49) (.c (.str [114, 101, 100, 105, 115, 116, 114, 105, 98, 117, 116, 101]))),Mv 193 194]
def VL:LO:=[Mv 195 13,Mv 196 13,Nc 197 196,Fa 198 22 197,Ld 199 198,Mv 200 6,Op 201 (.call (.t 200) [(.c (.int .i64 1099511627776))]),Mv 202 6,Af [6] (Op 203 (.call (.t 202) [(.c (.int .i64 1099511627776))])),Mv 204 10,Af [8, 6] (Op 205 (.call (.t 204) [])),Af [10, 8, 6] (Ct 206 539 [205]),Mv 207 6,Af [11, 10, 8, 6] (Op 208 (.call (.t 207) [(.c (.int .i64 1099511627776))])),Mv 209 9,
 Af [13, 11, 10, 8, 6] (Op 210 (.call (.t 209) [])),Op 211 (.build xP [(0, 1), (1, 1), (2, 1), (3, 1), (4, 1)] [(.t 201), (.t 203), (.t 206), (.t 208), (.t 210)]),Af [15, 13, 11, 10, 8, 6] (Op 212 (.bsl 5 xP 1 [0] [(.t 211)])),Af [4, 17, 15, 13, 11, 10, 8, 6] (Ap 213 5 48 199 212),Nc 214 195,Fa 215 22 214,Af [18, 4, 17, 15, 13, 11, 10, 8, 6] (St 1 215 213)]
def f465 : AFunc := ⟨216, 3, false, [], (Sr ajK (Sr ajJ (Sq (Sr ajI (Cn 28 (Sq (Rd ajH) Rt) Sk)) (Sr ajG (Sr ajF (Bk 0 (Sr ajE (Cn 50 (Rd ajD) (Sr ajC (Cn 82 (Rd ajB) (Sr We (Cn 103 (Rg Wd) (Sr Wc (Cn 108 (Rg Wb) (Sr Wa (Cn 113 (Sq (Rd V8) (Bl 1 zO)) (Sr VZ (Cn 143 (Sr VY (Sq (Sr VV (Cn 162 (Rg VU) (Sr VT (Rg VR)))) (Sr VO (Rd VN)))) (Sr VM (Cn 193 (Rd VL) Sk))))))))))))))))))))⟩
def akv:LO:=[Op 0 (.alloc (.agg zz9)),Op 1 (.alloc (.agg zz9))]
def aku:LO:=[Op 2 (.build zz9 [(0, 1), (1, 1), (2, 1), (3, 1)] [(.c (.str [])), (.c (.str [112, 111, 105, 110, 116])), (.c (.str [108, 97, 110])), (.c (.str [115, 116, 117, 98]))]),Op 3 (.build zz9 [(0, 1), (1, 1), (2, 1), (3, 1)] [(.c (.str [])), (.c (.str [101, 120, 116, 101, 114, 110, 97, 108])), (.c (.str [99, 111, 110, 102, 101, 100])), (.c (.str [105, 110, 116, 101, 114, 110, 97, 108]))]),St 4 0 2,
 St 4 1 3]
def f448 : AFunc := ⟨4, 0, false, [.cell 0 (some 4), .cell 1 (some 4)], (Sr akv (Rr aku))⟩
def asr:LO:=[Op 1 (.box (.t 0)),Mc 2 (.str [])]
def asq:LO:=[Ls 3 2 1,Ct 4 178 [3],Un 5 .not 4]
def asp:LO:=[Mc 2 (.str [])]
def aso:LO:=[Fa 6 0 1,Ld 7 6,Af [1] (Ct 8 227 [7]),Op 9 (.bin .add (.t 8) (.c (.str [47]))),Fa 10 1 1,Ld 11 10,Af [5, 2, 1] (Ct 12 246 [11]),Bi 13 .add 9 12,Mv 2 13]
def f229 : AFunc := ⟨14, 1, false, [.t 2], (Sr asr (Sq (Sr asq (Ci 5 (Rr asp))) (Sq (Rd aso) Rt)))⟩
def asz:LO:=[Mc 2 (.str [])]
def asy:LO:=[Op 3 (.alloc (.agg zz9))]
def asx:LO:=[Mc 5 (.int .i64 0)]
def asw:LO:=[Bc 6 .lss 5 4]
def asv:LO:=[Mv 7 5,Mv 4 7]
def asu:LO:=[Mv 8 4,Mv 9 0,Mv 10 4,Op 11 (.bin .mul (.c (.int .i64 8)) (.t 10)),Op 12 (.bin .sub (.c (.int .i64 24)) (.t 11)),Bi 13 .shr 9 12,Op 14 (.bin .and (.t 13) (.c (.int .u32 255))),Cv 15 .i64 14,Ct 16 246 [15],Op 17 (.iarr 4 1 (.t 3) (.t 8)),St 1 17 16]
def ast:LO:=[Bc 18 .add 5 1,Mv 5 18]
def JM:ACode:=(Sr asw (Sq (Cx 6 0) (Sq (Bk 1 (Sr asv (Rg asu))) (Rg ast))))
def NY:LO:=[Op 19 (.slarr 4 1 (.t 3) none none none),Ca 20 247 [(.t 19), (.c (.str [46]))],Mv 2 20]
def f227 : AFunc := ⟨21, 1, false, [.t 2], (Sr asz (Sr asy (Sq (Sr asx (Bl 0 JM)) (Rr NY))))⟩
def akt:LO:=[Op 1 (.box (.t 0)),Mc 2 (.int .i64 0)]
def aks:LO:=[Ls 5 4 1,Ct 6 507 [5],Op 3 (.alloc (.agg J3)),St 4 3 6]
def akr:LO:=[Op 7 (.iarr 4 1 (.t 3) (.c (.int .i64 0))),Ld 8 7,Op 9 (.mkfn 509 [(.t 1)]),Op 10 (.mkfn 510 [(.t 1)]),Ct 11 508 [8, 9, 10],Mv 4 11]
def akq:LO:=[Mv 12 4,Bc 13 .neq 12 0]
def akp:LO:=[Mv 14 4,Mv 2 14]
def ako:LO:=[Op 15 (.iarr 4 1 (.t 3) (.c (.int .i64 1))),Ld 16 15,Op 17 (.mkfn 513 [(.t 1)]),Op 18 (.mkfn 514 [(.t 1)]),Ct 19 508 [16, 17, 18],Mv 4 19]
def akn:LO:=[Mv 20 4,Bc 21 .neq 20 0]
def akm:LO:=[Mv 22 4,Mv 2 22]
def akl:LO:=[Op 23 (.iarr 4 1 (.t 3) (.c (.int .i64 2))),Ld 24 23,Op 25 (.mkfn 517 [(.t 1)]),Op 26 (.mkfn 518 [(.t 1)]),Ct 27 508 [24, 25, 26],Mv 4 27]
def akk:LO:=[Mv 28 4,Bc 29 .neq 28 0]
def Wu:LO:=[Mv 30 4,Mv 2 30]
def Wt:LO:=[Op 31 (.iarr 4 1 (.t 3) (.c (.int .i64 3))),Ld 32 31,Op 33 (.mkfn 521 [(.t 1)]),Op 34 (.mkfn 522 [(.t 3), (.t 1)]),Ct 35 508 [32, 33, 34],Mv 2 35]
def f451 : AFunc := ⟨36, 1, false, [.t 2], (Sr akt (Sr aks (Sr akr (Sq (Sr akq (Ci 13 (Rr akp))) (Sr ako (Sq (Sr akn (Ci 21 (Rr akm))) (Sr akl (Sq (Sr akk (Ci 29 (Rr Wu))) (Rr Wt)))))))))⟩
def arX:LO:=[Mc 2 (.str [])]
def arW:LO:=[Mv 3 0,Ct 4 258 [3],Mv 2 4]
def f246 : AFunc := ⟨5, 1, false, [.t 2], (Sr arX (Rr arW))⟩
def ajA:LO:=[Mc 2 (.int .i64 0)]
def ajz:LO:=[Mv 10 0,Ln 11 0 10,Mc 12 (.int .i64 0)]
def ajy:LO:=[Bi 13 .lss 12 11]
def ajx:LO:=[Ia 14 9 10 12,Ls 15 9 14,Op 4 (.alloc (.agg zz3)),St 9 4 15]
def ajw:LO:=[Ls 16 9 4,Ct 17 561 [16],Mv 5 17]
def ajv:LO:=[Mv 18 5,Bc 19 .neq 18 0]
def aju:LO:=[Mv 20 5,Mv 2 20]
def ajt:LO:=[Bc 21 .add 12 1,Mv 12 21]
def F8:ACode:=(Sr ajy (Sq (Cx 13 0) (Sq (Bk 1 (Sr ajx (Sr ajw (Sr ajv (Ci 19 (Rr aju)))))) (Rg ajt))))
def M8:LO:=[Mv 22 0,Ln 23 0 22,Mc 24 (.int .i64 0)]
def VK:LO:=[Bi 25 .lss 24 23]
def VJ:LO:=[Mv 26 24,Ia 27 9 22 24,Ls 28 9 27,Op 7 (.alloc (.agg zz3)),Mv 6 26,St 9 7 28]
def VI:LO:=[Mv 29 0,Mv 30 6,Op 31 (.slc 9 (.t 29) none (some (.t 30)) none),Ln 32 0 31,Mc 33 (.int .i64 0)]
def VH:LO:=[Bi 34 .lss 33 32]
def VG:LO:=[Ia 35 9 31 33,Ls 36 9 35,Op 9 (.alloc (.agg zz3)),St 9 9 36]
def VE:LO:=[Fa 37 1 7,Ls 38 2 37,Fa 39 1 9,Ls 40 2 39,Ct 41 241 [38, 40]]
def VD:LO:=[Mc 2 (.int .i64 7)]
def VC:LO:=[Bc 42 .add 33 1,Mv 33 42]
def zL:ACode:=(Sr VH (Sq (Cx 34 4) (Sq (Bk 5 (Sr VG (Sr VE (Ci 41 (Rr VD))))) (Rg VC))))
def F9:LO:=[Bc 43 .add 24 1,Mv 24 43]
def mh:ACode:=(Sr VK (Sq (Cx 25 2) (Sq (Bk 3 (Sr VJ (Sr VI (Bl 4 zL)))) (Rg F9))))
def ov:LO:=[Mc 2 (.int .i64 0)]
def f490 : AFunc := ⟨44, 1, false, [.t 2], (Sr ajA (Sq (Sr ajz (Bl 0 F8)) (Sq (Sr M8 (Bl 2 mh)) (Rr ov))))⟩
def as9:LO:=[Op 1 (.box (.t 0)),Mc 2 (.bool false)]
def as8:LO:=[Fa 3 1 1,Ld 4 3,Bc 5 .geq 4 0,Mv 6 5,Gt 6 (Fa 7 1 1),Af [1] (Gt 6 (Ld 8 7)),Gt 6 (Bc 9 .leq 8 32),Pa 10 6 9,Mv 11 10,Gt 11 (Fa 12 0 1),Af [5, 1] (Gt 11 (Ld 13 12)),Gt 11 (Fa 14 1 1),Af [5, 1] (Gt 11 (Ld 15 14)),Af [10, 12, 5, 1] (Gt 11 (Ct 16 181 [13, 15])),Gt 11 (Fa 17 0 1),Af [5, 1] (Gt 11 (Ld 18 17)),Gt 11 (Bi 19 .eql 16 18),Pa 20 11 19,Mv 2 20]
def f178 : AFunc := ⟨21, 1, false, [.t 2], (Sr as9 (Sq (Rd as8) Rt))⟩
def ajs:LO:=[Op 1 (.box (.t 0)),Mc 2 (.int .i64 0)]
def ajr:LO:=[Fa 3 0 1,Ld 4 3,Ca 5 567 [(.t 4), (.c (.int .i64 1)), (.c (.int .i64 3))],Un 6 .not 5]
def ajq:LO:=[Mc 2 (.int .i64 15)]
def ajp:LO:=[Fa 7 1 1,Fa 8 0 7,Ld 9 8,Fa 10 1 1,Fa 11 1 10,Ld 12 11,Ct 13 495 [9, 12],Un 14 .not 13,Mv 15 14,Gf 15 (Fa 16 3 1),Gf 15 (Ld 17 16),Gf 15 (Op 18 (.bin .eql (.t 17) (.c (.int .u32 0)))),Po 19 15 18,Mv 20 19,Gf 20 (Fa 21 1 1),Gf 20 (Ls 22 2 21),Gf 20 (Fa 23 3 1),Gf 20 (Ld 24 23),Gf 20 (Ct 25 568 [22, 24]),Gf 20 (Un 26 .not 25),Po 27 20 26]
def ajo:LO:=[Mc 2 (.int .i64 1)]
def ajn:LO:=[Fa 28 5 1,Ld 29 28,Ca 30 567 [(.t 29), (.c (.int .i64 1)), (.c (.int .i64 65535))],Un 31 .not 30,Mv 32 31,Gf 32 (Fa 33 6 1),Gf 32 (Ld 34 33),Gf 32 (Ca 35 567 [(.t 34), (.c (.int .i64 0)), (.c (.int .i64 255))]),Gf 32 (Un 36 .not 35),Po 37 32 36,Mv 38 37,Gf 38 (Fa 39 7 1),Gf 38 (Ld 40 39),Gf 38 (Ca 41 567 [(.t 40), (.c (.int .i64 1)), (.c (.int .i64 65535))]),Gf 38 (Un 42 .not 41),Po 43 38 42,
 Mv 44 43,Gf 44 (Fa 45 8 1),Gf 44 (Ld 46 45),Gf 44 (Fa 47 7 1),Gf 44 (Ld 48 47),Gf 44 (Ca 49 567 [(.t 46), (.t 48), (.c (.int .i64 65535))]),Gf 44 (Un 50 .not 49),Po 51 44 50]
def ajm:LO:=[Mc 2 (.int .i64 5)]
def ajl:LO:=[Mc 2 (.int .i64 0)]
def f493 : AFunc := ⟨52, 1, false, [.t 2], (Sr ajs (Sq (Sr ajr (Ci 6 (Rr ajq))) (Sq (Sr ajp (Ci 27 (Rr ajo))) (Sq (Sr ajn (Ci 51 (Rr ajm))) (Rr ajl)))))⟩
def ajk:LO:=[Op 2 (.box (.t 0)),Op 3 (.box (.t 1)),Mc 4 (.bool false)]
def ajj:LO:=[Fa 6 1 2,Ld 7 6,Mv 5 7]
def aji:LO:=[Fa 8 1 3,Ld 9 8,Mv 10 5,Bi 11 .lss 9 10]
def ajh:LO:=[Fa 12 1 3,Ld 13 12,Mv 5 13]
def ajg:LO:=[Fa 14 0 2,Ld 15 14,Mv 16 5,Af [1] (Ct 17 569 [15, 16]),Fa 18 0 3,Ld 19 18,Mv 20 5,Af [5, 3, 1] (Ct 21 569 [19, 20]),Bi 22 .eql 17 21,Mv 4 22]
def f494 : AFunc := ⟨23, 2, false, [.t 4], (Sr ajk (Sr ajj (Sq (Sr aji (Cn 11 (Rg ajh) Sk)) (Sq (Rd ajg) Rt))))⟩
def ajf:LO:=[Mc 4 (.bool false)]
def aje:LO:=[Mv 6 1,Bc 7 .lss 6 0,Mv 8 7,Gf 8 (Mv 9 1),Gf 8 (Bc 10 .gtr 9 32),Po 11 8 10]
def ajd:LO:=[Mc 4 (.bool false)]
def ajc:LO:=[Mv 12 1,Mv 5 12]
def ajb:LO:=[Mv 13 5,Bc 14 .lss 13 32]
def aja:LO:=[Mv 17 0,Mv 18 5,Op 19 (.bin .sub (.c (.int .i64 31)) (.t 18)),Cv 20 .u64 19,Bi 21 .shr 17 20,Op 22 (.bin .and (.t 21) (.c (.int .u32 1))),Op 23 (.bin .eql (.t 22) (.c (.int .u32 1)))]
def ai9:LO:=[Mc 4 (.bool false)]
def ai8:LO:=[Mv 15 5,Bc 16 .add 15 1,Mv 5 16]
def F7:ACode:=(Sq (Sr ajb (Cx 14 0)) (Sq (Bk 1 (Sr aja (Ci 23 (Rr ai9)))) (Rg ai8)))
def M0:LO:=[Mc 4 (.bool true)]
def f495 : AFunc := ⟨24, 2, false, [.t 4], (Sr ajf (Sq (Sr aje (Ci 11 (Rr ajd))) (Sq (Sr ajc (Bl 0 F7)) (Rr M0))))⟩
def Qm:LI:=[.inLoop F7, .inBlock 0, .code (Rr M0)]
def ai7:LO:=[Mc 2 (.bool false)]
def ai6:LO:=[Mc 3 (.int .i64 0)]
def ai5:LO:=[Mv 4 3,Mv 5 0,Ln 6 0 5,Bi 7 .lss 4 6]
def ai4:LO:=[Mv 10 0,Mv 11 3,Ia 12 4 10 11,Fa 13 1 12,Fa 14 0 13,Af [2] (Ld 15 14),Mv 16 0,Mv 17 3,Ia 18 4 16 17,Fa 19 1 18,Fa 20 1 19,Af [8] (Ld 21 20),Af [5, 11, 2, 8] (Ct 22 495 [15, 21]),Un 23 .not 22]
def ai3:LO:=[Mc 2 (.bool false)]
def ai2:LO:=[Mv 24 3,Bc 25 .gtr 24 0,Mv 26 25,Gt 26 (Mv 27 0),Gt 26 (Mv 28 3),Gt 26 (Bc 29 .sub 28 1),Gt 26 (Ia 30 4 27 29),Gt 26 (Fa 31 0 30),Af [6] (Gt 26 (Ld 32 31)),Gt 26 (Mv 33 0),Gt 26 (Mv 34 3),Gt 26 (Ia 35 4 33 34),Gt 26 (Fa 36 0 35),Af [11] (Gt 26 (Ld 37 36)),Gt 26 (Bi 38 .lss 32 37),Gt 26 (Mv 39 38),Gf 39 (Mv 40 0),Gf 39 (Mv 41 3),Gf 39 (Bc 42 .sub 41 1),Af [8, 13, 6, 11] (Gf 39 (Ia 43 4 40 42)),
 Gf 39 (Fa 44 0 43),Af [19, 8, 13, 6, 11] (Gf 39 (Ld 45 44)),Gf 39 (Mv 46 0),Gf 39 (Mv 47 3),Af [8, 13, 6, 11] (Gf 39 (Ia 48 4 46 47)),Gf 39 (Fa 49 0 48),Af [24, 8, 13, 6, 11] (Gf 39 (Ld 50 49)),Gf 39 (Bi 51 .eql 45 50),Gf 39 (Mv 52 51),Gt 52 (Mv 53 0),Gt 52 (Mv 54 3),Gt 52 (Bc 55 .sub 54 1),Af [21, 26, 19, 24, 8, 13, 6, 11] (Gt 52 (Ia 56 4 53 55)),Gt 52 (Fa 57 1 56),
 Af [32, 21, 26, 19, 24, 8, 13, 6, 11] (Gt 52 (Ls 58 2 57)),Gt 52 (Mv 59 0),Gt 52 (Mv 60 3),Af [21, 26, 19, 24, 8, 13, 6, 11] (Gt 52 (Ia 61 4 59 60)),Gt 52 (Fa 62 1 61),Af [37, 21, 26, 19, 24, 8, 13, 6, 11] (Gt 52 (Ls 63 2 62)),Af [34, 39, 32, 37, 21, 26, 19, 24, 8, 13, 6, 11] (Gt 52 (Ct 64 570 [58, 63])),Gf 39 (Pa 65 52 64),Gt 26 (Po 66 39 65),Gt 26 (Un 67 .not 66),Pa 68 26 67]
def ai1:LO:=[Mc 2 (.bool false)]
def ai0:LO:=[Mv 8 3,Bc 9 .add 8 1,Mv 3 9]
def F6:ACode:=(Sq (Sr ai5 (Cx 7 0)) (Sq (Bk 1 (Sq (Sq (Rd ai4) (Ci 23 (Rr ai3))) (Sq (Rd ai2) (Ci 68 (Rr ai1))))) (Rg ai0)))
def MZ:LO:=[Mc 2 (.bool true)]
def f496 : AFunc := ⟨69, 1, false, [.t 2], (Sr ai7 (Sq (Sr ai6 (Bl 0 F6)) (Rr MZ)))⟩
def zK:LI:=[.inLoop F6, .inBlock 0, .code (Rr MZ)]
def aiZ:LO:=[Mc 2 (.int .i64 0)]
def aiY:LO:=[Mv 10 0,Ln 11 0 10,Bc 12 .gtr 11 64]
def aiX:LO:=[Mc 2 (.int .i64 4)]
def aiW:LO:=[Mc 3 (.str [])]
def aiV:LO:=[Mv 13 0,Ln 14 0 13,Mc 15 (.int .i64 0)]
def aiU:LO:=[Bi 16 .lss 15 14]
def aiT:LO:=[Mv 17 15,Ia 18 2 13 15,Ls 19 2 18,Op 5 (.alloc (.agg zz2)),Mv 4 17,St 2 5 19]
def aiS:LO:=[Fa 20 0 5,Ld 21 20,Mv 22 3,Mv 23 4,Bc 24 .eql 23 0,Fa 25 1 5,Ld 26 25,Ln 27 0 26,Ct 28 500 [21, 22, 24, 27],Mv 6 28]
def aiR:LO:=[Mv 29 6,Bc 30 .neq 29 0]
def aiQ:LO:=[Mv 31 6,Mv 2 31]
def Vz:LO:=[Fa 32 0 5,Ld 33 32,Mv 3 33]
def Vy:LO:=[Fa 34 1 5,Ld 35 34,Ln 36 0 35,Mc 37 (.int .i64 0)]
def Vv:LO:=[Bi 38 .lss 37 36]
def Vu:LO:=[Ia 39 5 35 37,Ls 40 5 39,Op 8 (.alloc (.agg zz20)),St 5 8 40]
def Vt:LO:=[Ls 41 5 8,Ct 42 326 [41],Mv 9 42]
def Vr:LO:=[Mv 43 9,Bc 44 .neq 43 0]
def Vo:LO:=[Mv 45 9,Mv 2 45]
def Vn:LO:=[Bc 46 .add 37 1,Mv 37 46]
def zH:ACode:=(Sr Vv (Sq (Cx 38 2) (Sq (Bk 3 (Sr Vu (Sr Vt (Sr Vr (Ci 44 (Rr Vo)))))) (Rg Vn))))
def F3:LO:=[Bc 47 .add 15 1,Mv 15 47]
def ql:ACode:=(Sr aiU (Sq (Cx 16 0) (Sq (Bk 1 (Sr aiT (Sq (Sr aiS (Sr aiR (Ci 30 (Rr aiQ)))) (Sr Vz (Sr Vy (Bl 2 zH)))))) (Rg F3))))
def tW:LO:=[Mc 2 (.int .i64 0)]
def f497 : AFunc := ⟨48, 1, false, [.t 2], (Sr aiZ (Sq (Sr aiY (Ci 12 (Rr aiX))) (Sr aiW (Sq (Sr aiV (Bl 0 ql)) (Rr tW)))))⟩
def vU:LI:=[.inLoop ql, .inBlock 0, .code (Rr tW)]
def MW:LI:=[.inLoop zH, .inBlock 2, .inBlock 1, .code (Rg F3), .inLoop ql, .inBlock 0, .code (Rr tW)]
def aiP:LO:=[Mc 2 (.int .i64 0)]
def aiO:LO:=[Mv 11 0,Ln 12 0 11,Bc 13 .gtr 12 64]
def aiN:LO:=[Mc 2 (.int .i64 4)]
def aiM:LO:=[Mc 3 (.str [])]
def aiL:LO:=[Mv 14 0,Ln 15 0 14,Mc 16 (.int .i64 0)]
def aiK:LO:=[Bi 17 .lss 16 15]
def aiJ:LO:=[Mv 18 16,Ia 19 2 14 16,Ls 20 2 19,Op 5 (.alloc (.agg zz2)),Mv 4 18,St 2 5 20]
def aiI:LO:=[Fa 21 0 5,Ld 22 21,Mv 23 3,Mv 24 4,Bc 25 .eql 24 0,Fa 26 1 5,Ld 27 26,Ln 28 0 27,Ct 29 500 [22, 23, 25, 28],Mv 6 29]
def aiH:LO:=[Mv 30 6,Bc 31 .neq 30 0]
def aiG:LO:=[Mv 32 6,Mv 2 32]
def Vm:LO:=[Fa 33 0 5,Ld 34 33,Mv 3 34]
def Vl:LO:=[Fa 35 1 5,Ld 36 35,Ln 37 0 36,Mc 38 (.int .i64 0)]
def Vk:LO:=[Bi 39 .lss 38 37]
def Vj:LO:=[Ia 40 2 36 38,Ls 41 2 40,Op 8 (.alloc (.agg [.bool false, .str []])),St 2 8 41]
def Vi:LO:=[Fa 43 1 8,Ld 44 43,Ct 45 571 [44],Mv 42 45,Ex 46 42 0,Ex 47 42 1,Op 9 (.alloc (.agg zz0)),St 4 9 46,Mv 10 47]
def Vh:LO:=[Mv 48 10,Bc 49 .neq 48 0]
def Vg:LO:=[Mv 50 10,Mv 2 50]
def Ve:LO:=[Bc 51 .add 38 1,Mv 38 51]
def zG:ACode:=(Sr Vk (Sq (Cx 39 2) (Sq (Bk 3 (Sr Vj (Sr Vi (Sr Vh (Ci 49 (Rr Vg)))))) (Rg Ve))))
def FY:LO:=[Bc 52 .add 16 1,Mv 16 52]
def qk:ACode:=(Sr aiK (Sq (Cx 17 0) (Sq (Bk 1 (Sr aiJ (Sq (Sr aiI (Sr aiH (Ci 31 (Rr aiG)))) (Sr Vm (Sr Vl (Bl 2 zG)))))) (Rg FY))))
def tV:LO:=[Mc 2 (.int .i64 0)]
def f498 : AFunc := ⟨53, 1, false, [.t 2], (Sr aiP (Sq (Sr aiO (Ci 13 (Rr aiN))) (Sr aiM (Sq (Sr aiL (Bl 0 qk)) (Rr tV)))))⟩
def vT:LI:=[.inLoop qk, .inBlock 0, .code (Rr tV)]
def MU:LI:=[.inLoop zG, .inBlock 2, .inBlock 1, .code (Rg FY), .inLoop qk, .inBlock 0, .code (Rr tV)]
def aiF:LO:=[Mc 2 (.int .i64 0)]
def aiE:LO:=[Mv 10 0,Ln 11 0 10,Bc 12 .gtr 11 64]
def aiD:LO:=[Mc 2 (.int .i64 4)]
def aiC:LO:=[Mc 3 (.str [])]
def aiB:LO:=[Mv 13 0,Ln 14 0 13,Mc 15 (.int .i64 0)]
def aiA:LO:=[Bi 16 .lss 15 14]
def aiz:LO:=[Mv 17 15,Ia 18 2 13 15,Ls 19 2 18,Op 5 (.alloc (.agg zz2)),Mv 4 17,St 2 5 19]
def aiy:LO:=[Fa 20 0 5,Ld 21 20,Mv 22 3,Mv 23 4,Bc 24 .eql 23 0,Fa 25 1 5,Ld 26 25,Ln 27 0 26,Ct 28 500 [21, 22, 24, 27],Mv 6 28]
def aix:LO:=[Mv 29 6,Bc 30 .neq 29 0]
def aiw:LO:=[Mv 31 6,Mv 2 31]
def Vd:LO:=[Fa 32 0 5,Ld 33 32,Mv 3 33]
def Vc:LO:=[Fa 34 1 5,Ld 35 34,Ln 36 0 35,Mc 37 (.int .i64 0)]
def U9:LO:=[Bi 38 .lss 37 36]
def U7:LO:=[Ia 39 3 35 37,Ls 40 3 39,Op 8 (.alloc (.agg zz21)),St 3 8 40]
def U6:LO:=[Ls 41 3 8,Ct 42 572 [41],Mv 9 42]
def U5:LO:=[Mv 43 9,Bc 44 .neq 43 0]
def UZ:LO:=[Mv 45 9,Mv 2 45]
def UY:LO:=[Bc 46 .add 37 1,Mv 37 46]
def zF:ACode:=(Sr U9 (Sq (Cx 38 2) (Sq (Bk 3 (Sr U7 (Sr U6 (Sr U5 (Ci 44 (Rr UZ)))))) (Rg UY))))
def FX:LO:=[Bc 47 .add 15 1,Mv 15 47]
def qj:ACode:=(Sr aiA (Sq (Cx 16 0) (Sq (Bk 1 (Sr aiz (Sq (Sr aiy (Sr aix (Ci 30 (Rr aiw)))) (Sr Vd (Sr Vc (Bl 2 zF)))))) (Rg FX))))
def tU:LO:=[Mc 2 (.int .i64 0)]
def f499 : AFunc := ⟨48, 1, false, [.t 2], (Sr aiF (Sq (Sr aiE (Ci 12 (Rr aiD))) (Sr aiC (Sq (Sr aiB (Bl 0 qj)) (Rr tU)))))⟩
def vR:LI:=[.inLoop qj, .inBlock 0, .code (Rr tU)]
def MT:LI:=[.inLoop zF, .inBlock 2, .inBlock 1, .code (Rg FX), .inLoop qj, .inBlock 0, .code (Rr tU)]
def aiv:LO:=[Mc 8 (.int .i64 0)]
def aiu:LO:=[Mv 9 0,Ct 10 573 [9],Un 11 .not 10]
def ait:LO:=[Mc 8 (.int .i64 1)]
def ais:LO:=[Mv 12 2,Un 13 .not 12,Mv 14 13,Gt 14 (Mv 15 0),Gt 14 (Mv 16 1),Gt 14 (Bi 17 .leq 15 16),Pa 18 14 17]
def air:LO:=[Mc 8 (.int .i64 16)]
def aiq:LO:=[Mv 19 3,Bc 20 .gtr 19 64]
def aip:LO:=[Mc 8 (.int .i64 4)]
def aio:LO:=[Mc 8 (.int .i64 0)]
def f500 : AFunc := ⟨21, 4, false, [.t 8], (Sr aiv (Sq (Sr aiu (Ci 11 (Rr ait))) (Sq (Sr ais (Ci 18 (Rr air))) (Sq (Sr aiq (Ci 20 (Rr aip))) (Rr aio)))))⟩
def ain:LO:=[Op 3 (.box (.t 0)),Op 4 (.box (.t 1)),Mc 6 (.int .i64 0)]
def aim:LO:=[Fa 16 1 4,Ld 17 16,Mv 18 2,Ia 19 4 17 18,Ls 20 4 19,Op 7 (.alloc (.agg OA)),St 4 7 20]
def ail:LO:=[Fa 21 0 7,Ld 22 21,Ct 23 573 [22],Un 24 .not 23]
def aik:LO:=[Mc 6 (.int .i64 1)]
def aij:LO:=[Fa 25 1 4,Ld 26 25,Mv 27 2,Op 28 (.slc 4 (.t 26) none (some (.t 27)) none),Ln 29 0 28,Mc 30 (.int .i64 0)]
def aii:LO:=[Bi 31 .lss 30 29]
def aih:LO:=[Ia 32 4 28 30,Ls 33 4 32,Op 9 (.alloc (.agg OA)),St 4 9 33]
def aig:LO:=[Fa 34 0 9,Ld 35 34,Fa 36 0 7,Ld 37 36,Bi 38 .eql 35 37]
def aif:LO:=[Mc 6 (.int .i64 7)]
def aie:LO:=[Bc 39 .add 30 1,Mv 30 39]
def zE:ACode:=(Sr aii (Sq (Cx 31 0) (Sq (Bk 1 (Sr aih (Sr aig (Ci 38 (Rr aif))))) (Rg aie))))
def FW:LO:=[Fa 40 1 7,Ld 41 40,Ln 42 0 41,Bc 43 .gtr 42 64]
def FU:LO:=[Mc 6 (.int .i64 4)]
def FT:LO:=[Fa 44 1 7,Ld 45 44,Ln 46 0 45,Mc 47 (.int .i64 0)]
def UX:LO:=[Bi 48 .lss 47 46]
def UW:LO:=[Ia 49 6 45 47,Ls 50 6 49,Op 11 (.alloc (.agg [.int .i64 0, .str [], .int .i64 0, .int .u32 0, .int .i64 0, .bool false])),St 6 11 50]
def UV:LO:=[Ls 51 4 3,Ls 52 6 11,Ct 53 574 [51, 52],Mv 12 53]
def UT:LO:=[Mv 54 12,Bc 55 .neq 54 0]
def UR:LO:=[Mv 56 12,Mv 6 56]
def UQ:LO:=[Bc 57 .add 47 1,Mv 47 57]
def qi:ACode:=(Sr UX (Sq (Cx 48 2) (Sq (Bk 3 (Sr UW (Sr UV (Sr UT (Ci 55 (Rr UR)))))) (Rg UQ))))
def tR:LO:=[Fa 58 2 7,Ld 59 58,Ln 60 0 59,Bc 61 .gtr 60 64]
def tQ:LO:=[Mc 6 (.int .i64 4)]
def tP:LO:=[Fa 62 2 7,Ld 63 62,Ln 64 0 63,Mc 65 (.int .i64 0)]
def UO:LO:=[Bi 66 .lss 65 64]
def UM:LO:=[Ia 67 5 63 65,Ls 68 5 67,Op 14 (.alloc (.agg Oz)),St 5 14 68]
def UL:LO:=[Ls 69 5 14,Ct 70 575 [69],Mv 15 70]
def UK:LO:=[Mv 71 15,Bc 72 .neq 71 0]
def UJ:LO:=[Mv 73 15,Mv 6 73]
def UI:LO:=[Bc 74 .add 65 1,Mv 65 74]
def mg:ACode:=(Sr UO (Sq (Cx 66 4) (Sq (Bk 5 (Sr UM (Sr UL (Sr UK (Ci 72 (Rr UJ)))))) (Rg UI))))
def ou:LO:=[Fa 75 3 7,Ld 76 75,Bc 77 .neq 76 1,Mv 78 77,Gt 78 (Fa 79 3 7),Gt 78 (Ld 80 79),Gt 78 (Bc 81 .neq 80 2),Pa 82 78 81,Mv 83 82,Gt 83 (Fa 84 3 7),Gt 83 (Ld 85 84),Gt 83 (Bc 86 .neq 85 3),Pa 87 83 86]
def ot:LO:=[Mc 6 (.int .i64 15)]
def oq:LO:=[Mc 6 (.int .i64 0)]
def f501 : AFunc := ⟨88, 3, false, [.t 6], (Sr ain (Sr aim (Sq (Sr ail (Ci 24 (Rr aik))) (Sq (Sr aij (Bl 0 zE)) (Sq (Sr FW (Ci 43 (Rr FU))) (Sq (Sr FT (Bl 2 qi)) (Sq (Sr tR (Ci 61 (Rr tQ))) (Sq (Sr tP (Bl 4 mg)) (Sq (Sr ou (Ci 87 (Rr ot))) (Rr oq))))))))))⟩
def MR:LI:=[.inLoop zE, .inBlock 0, .code (Sq (Sr FW (Ci 43 (Rr FU))) (Sq (Sr FT (Bl 2 qi)) (Sq (Sr tR (Ci 61 (Rr tQ))) (Sq (Sr tP (Bl 4 mg)) (Sq (Sr ou (Ci 87 (Rr ot))) (Rr oq))))))]
def MQ:LI:=[.inLoop qi, .inBlock 2, .code (Sq (Sr tR (Ci 61 (Rr tQ))) (Sq (Sr tP (Bl 4 mg)) (Sq (Sr ou (Ci 87 (Rr ot))) (Rr oq))))]
def MO:LI:=[.inLoop mg, .inBlock 4, .code (Sq (Sr ou (Ci 87 (Rr ot))) (Rr oq))]
def as5:LO:=[Op 2 (.box (.t 0)),Op 3 (.box (.t 1)),Mc 4 (.int .i64 0)]
def as4:LO:=[Fa 5 0 2,Ld 6 5,Fa 7 0 3,Ld 8 7,Bi 9 .neq 6 8]
def as3:LO:=[Fa 10 0 2,Ld 11 10,Fa 12 0 3,Ld 13 12,Bi 14 .lss 11 13]
def as2:LO:=[Mc 4 (.int .i64 (-1))]
def as1:LO:=[Mc 4 (.int .i64 1)]
def as0:LO:=[Fa 15 1 2,Ld 16 15,Fa 17 1 3,Ld 18 17,Bi 19 .lss 16 18]
def asZ:LO:=[Mc 4 (.int .i64 (-1))]
def asY:LO:=[Fa 20 1 2,Ld 21 20,Fa 22 1 3,Ld 23 22,Bi 24 .gtr 21 23]
def asX:LO:=[Mc 4 (.int .i64 1)]
def asW:LO:=[Mc 4 (.int .i64 0)]
def f180 : AFunc := ⟨25, 2, false, [.t 4], (Sr as5 (Sq (Sr as4 (Cn 9 (Sq (Sr as3 (Ci 14 (Rr as2))) (Rr as1)) Sk)) (Sq (Sr as0 (Ci 19 (Rr asZ))) (Sq (Sr asY (Ci 24 (Rr asX))) (Rr asW)))))⟩
def aid:LO:=[Op 1 (.box (.t 0)),Mc 2 (.int .i64 0)]
def aic:LO:=[Fa 3 0 1,Ld 4 3,Bc 5 .lss 4 1,Mv 6 5,Gf 6 (Fa 7 0 1),Gf 6 (Ld 8 7),Gf 6 (Bc 9 .gtr 8 86400),Po 10 6 9,Mv 11 10,Gf 11 (Fa 12 1 1),Gf 11 (Ld 13 12),Gf 11 (Bc 14 .lss 13 1),Po 15 11 14,Mv 16 15,Gf 16 (Fa 17 1 1),Gf 16 (Ld 18 17),Gf 16 (Bc 19 .gtr 18 20000),Po 20 16 19,Mv 21 20,Gf 21 (Fa 22 2 1),Gf 21 (Ld 23 22),Gf 21 (Fa 24 1 1),Gf 21 (Ld 25 24),Gf 21 (Bi 26 .leq 23 25),Po 27 21 26,Mv 28 27,
 Gf 28 (Fa 29 2 1),Gf 28 (Ld 30 29),Gf 28 (Bc 31 .gtr 30 20000),Po 32 28 31,Mv 33 32,Gf 33 (Fa 34 3 1),Gf 33 (Ld 35 34),Gf 33 (Fa 36 0 1),Gf 33 (Ld 37 36),Gf 33 (Bi 38 .lss 35 37),Po 39 33 38,Mv 40 39,Gf 40 (Fa 41 3 1),Gf 40 (Ld 42 41),Gf 40 (Fa 43 0 1),Gf 40 (Ld 44 43),Gf 40 (Op 45 (.bin .mul (.c (.int .i64 16)) (.t 44))),Gf 40 (Bi 46 .gtr 42 45),Po 47 40 46]
def aib:LO:=[Mc 2 (.int .i64 5)]
def aia:LO:=[Mc 2 (.int .i64 0)]
def f502 : AFunc := ⟨48, 1, false, [.t 2], (Sr aid (Sq (Sr aic (Ci 47 (Rr aib))) (Rr aia)))⟩
def ah9:LO:=[Op 2 (.box (.t 0)),Mc 4 (.int .i64 0)]
def ah8:LO:=[Fa 13 4 2,Ld 14 13,Mv 15 1,Ia 16 11 14 15,Ls 17 11 16,Op 5 (.alloc (.agg mQ)),St 11 5 17]
def ah7:LO:=[Ls 18 15 2,Ls 19 11 5,Ct 20 576 [18, 19],Mv 6 20]
def ah6:LO:=[Mv 21 6,Bc 22 .neq 21 0]
def ah5:LO:=[Mv 23 6,Mv 4 23]
def ah4:LO:=[Fa 24 2 5,Ld 25 24,Op 26 (.bin .eql (.t 25) (.c (.int .u32 0))),Mv 27 26,Gf 27 (Fa 28 3 5),Gf 27 (Ld 29 28),Gf 27 (Op 30 (.bin .eql (.t 29) (.c (.int .u32 0)))),Po 31 27 30]
def ah3:LO:=[Mc 4 (.int .i64 1)]
def ah2:LO:=[Fa 32 4 2,Ld 33 32,Mv 34 1,Op 35 (.slc 11 (.t 33) none (some (.t 34)) none),Ln 36 0 35,Mc 37 (.int .i64 0)]
def ah1:LO:=[Bi 38 .lss 37 36]
def ah0:LO:=[Ia 39 11 35 37,Ls 40 11 39,Op 8 (.alloc (.agg mQ)),St 11 8 40]
def UH:LO:=[Fa 41 2 8,Ld 42 41,Fa 43 2 5,Ld 44 43,Bi 45 .eql 42 44]
def UG:LO:=[Mc 4 (.int .i64 7)]
def UF:LO:=[Bc 46 .add 37 1,Mv 37 46]
def zD:ACode:=(Sr ah1 (Sq (Cx 38 0) (Sq (Bk 1 (Sr ah0 (Sr UH (Ci 45 (Rr UG))))) (Rg UF))))
def FQ:LO:=[Fa 47 4 5,Ld 48 47,Mv 49 48,Gt 49 (Fa 50 0 5),Gt 49 (Ld 51 50),Gt 49 (Bc 52 .neq 51 3),Pa 53 49 52]
def FP:LO:=[Mc 4 (.int .i64 1)]
def FM:LO:=[Fa 54 5 5,Ld 55 54,Bc 56 .neq 55 0,Mv 57 56,Gt 57 (Fa 58 5 5),Gt 57 (Ld 59 58),Gt 57 (Bc 60 .lss 59 3),Gt 57 (Mv 61 60),Gf 61 (Fa 62 5 5),Gf 61 (Ld 63 62),Gf 61 (Bc 64 .gtr 63 65535),Gt 57 (Po 65 61 64),Pa 66 57 65]
def FK:LO:=[Mc 4 (.int .i64 21)]
def FJ:LO:=[Fa 67 6 5,Ld 68 67,Bc 69 .lss 68 0,Mv 70 69,Gf 70 (Fa 71 6 5),Gf 70 (Ld 72 71),Gf 70 (Bc 73 .gtr 72 4095),Po 74 70 73]
def FH:LO:=[Mc 4 (.int .i64 5)]
def FG:LO:=[Fa 75 7 5,Ld 76 75,Fa 77 8 5,Ld 78 77,Op 79 (.bsl 1 zz1 2 [0, 1] [(.t 76), (.t 78)]),Ln 80 0 79,Mc 81 (.int .i64 0)]
def UE:LO:=[Bi 82 .lss 81 80]
def UD:LO:=[Ia 83 1 79 81,Ld 84 83,Mv 10 84]
def UC:LO:=[Fa 86 6 2,Ls 87 4 86,Mv 88 10,Ct 89 506 [87, 88],Mv 85 89,Ex 90 85 0,Ex 91 85 1,Op 11 (.alloc (.agg zz8)),St 3 11 90,Mv 12 91]
def UB:LO:=[Mv 92 10,Op 93 (.bin .neq (.t 92) (.c (.str []))),Mv 94 93,Gt 94 (Mv 95 12),Gt 94 (Un 96 .not 95),Pa 97 94 96]
def UA:LO:=[Mc 4 (.int .i64 6)]
def Uz:LO:=[Bc 98 .add 81 1,Mv 81 98]
def qh:ACode:=(Sr UE (Sq (Cx 82 2) (Sq (Bk 3 (Sr UD (Sr UC (Sr UB (Ci 97 (Rr UA)))))) (Rg Uz))))
def tN:LO:=[Fa 99 10 5,Ld 100 99,Mv 101 100,Gt 101 (Fa 102 0 5),Gt 101 (Ld 103 102),Gt 101 (Bc 104 .neq 103 1),Gt 101 (Mv 105 104),Gf 105 (Fa 106 10 2),Gf 105 (Ls 107 4 106),Gf 105 (Ct 108 502 [107]),Gf 105 (Bc 109 .neq 108 0),Gt 101 (Po 110 105 109),Pa 111 101 110]
def tL:LO:=[Mc 4 (.int .i64 1)]
def tK:LO:=[Mc 4 (.int .i64 0)]
def f503 : AFunc := ⟨112, 2, false, [.t 4], (Sr ah9 (Sr ah8 (Sq (Sr ah7 (Sr ah6 (Ci 22 (Rr ah5)))) (Sq (Sr ah4 (Ci 31 (Rr ah3))) (Sq (Sr ah2 (Bl 0 zD)) (Sq (Sr FQ (Ci 53 (Rr FP))) (Sq (Sr FM (Ci 66 (Rr FK))) (Sq (Sr FJ (Ci 74 (Rr FH))) (Sq (Sr FG (Bl 2 qh)) (Sq (Sr tN (Ci 111 (Rr tL))) (Rr tK)))))))))))⟩
def MN:LI:=[.inLoop zD, .inBlock 0, .code (Sq (Sr FQ (Ci 53 (Rr FP))) (Sq (Sr FM (Ci 66 (Rr FK))) (Sq (Sr FJ (Ci 74 (Rr FH))) (Sq (Sr FG (Bl 2 qh)) (Sq (Sr tN (Ci 111 (Rr tL))) (Rr tK))))))]
def nC:LI:=[.inLoop qh, .inBlock 2, .code (Sq (Sr tN (Ci 111 (Rr tL))) (Rr tK))]
def ahZ:LO:=[Mc 2 (.bool false)]
def ahY:LO:=[Mv 3 0,Bc 4 .geq 3 3,Mv 5 4,Gt 5 (Mv 6 0),Gt 5 (Bc 7 .leq 6 5),Pa 8 5 7,Mv 2 8]
def f504 : AFunc := ⟨9, 1, false, [.t 2], (Sr ahZ (Rr ahY))⟩
def ahX:LO:=[Mc 2 (.bool false)]
def ahW:LO:=[Mv 3 0,Bc 4 .eql 3 6,Mv 5 4,Gf 5 (Mv 6 0),Gf 5 (Bc 7 .eql 6 7),Po 8 5 7,Mv 2 8]
def f505 : AFunc := ⟨9, 1, false, [.t 2], (Sr ahX (Rr ahW))⟩
def ahV:LO:=[Op 2 (.box (.t 0)),Op 4 (.alloc (.agg zz8)),Mc 5 (.bool false)]
def ahU:LO:=[Fa 8 3 2,Ld 9 8,Ln 10 0 9,Mc 11 (.int .i64 0)]
def ahT:LO:=[Bi 12 .lss 11 10]
def ahS:LO:=[Ia 13 3 9 11,Ls 14 3 13,Op 7 (.alloc (.agg zz8)),St 3 7 14]
def ahR:LO:=[Fa 15 0 7,Ld 16 15,Mv 17 1,Bi 18 .eql 16 17]
def ahQ:LO:=[Ls 19 3 7,St 3 4 19,Mc 5 (.bool true)]
def ahP:LO:=[Bc 20 .add 11 1,Mv 11 20]
def FF:ACode:=(Sr ahT (Sq (Cx 12 0) (Sq (Bk 1 (Sr ahS (Sr ahR (Ci 18 (Rr ahQ))))) (Rg ahP))))
def ML:LO:=[Op 21 (.build zz8 [] []),St 3 4 21,Mc 5 (.bool false)]
def f506 : AFunc := ⟨22, 2, false, [.cell 4 (some 3), .t 5], (Sr ahV (Sq (Sr ahU (Bl 0 FF)) (Rr ML)))⟩
def Ql:LI:=[.inLoop FF, .inBlock 0, .code (Rr ML)]
def asT:LO:=[Mc 4 (.int .u32 0)]
def asR:LO:=[Mc 5 (.int .u32 0)]
def asQ:LO:=[Mv 7 1,Ca 8 184 [(.t 7), (.c (.int .i64 32))],Mc 9 (.int .i64 0)]
def asP:LO:=[Bi 10 .lss 9 8]
def asO:LO:=[Mv 11 9,Mv 6 11]
def asM:LO:=[Mv 12 5,Mv 13 0,Mv 14 6,Ct 15 185 [13, 14],Cv 16 .u32 15,Mv 17 6,Op 18 (.bin .sub (.c (.int .i64 31)) (.t 17)),Cv 19 .u64 18,Bi 20 .shl 16 19,Bi 21 .or 12 20,Mv 5 21]
def asL:LO:=[Bc 22 .add 9 1,Mv 9 22]
def JN:ACode:=(Sr asP (Sq (Cx 10 0) (Sq (Bk 1 (Sr asO (Rg asM))) (Rg asL))))
def NZ:LO:=[Mv 23 5,Mv 4 23]
def f182 : AFunc := ⟨24, 2, false, [.t 4], (Sr asT (Sr asR (Sq (Sr asQ (Bl 0 JN)) (Rr NZ))))⟩
def Qv:LI:=[.inLoop JN, .inBlock 0, .code (Rr NZ)]
def ahw:LO:=[Mc 2 (.str []),Mc 3 (.str [])]
def ahv:LO:=[Mv 5 0,Ln 6 1 5,Mc 7 (.int .i64 0)]
def ahu:LO:=[Bi 8 .lss 7 6]
def aht:LO:=[Mv 9 7,Mv 4 9]
def ahs:LO:=[Mv 10 0,Mv 11 4,Op 12 (.istr (.t 10) (.t 11)),Op 13 (.bin .eql (.t 12) (.c (.int .u8 58)))]
def ahr:LO:=[Mv 14 0,Mv 15 4,Op 16 (.slstr (.t 14) none (some (.t 15))),Mv 17 0,Mv 18 4,Bc 19 .add 18 1,Op 20 (.slstr (.t 17) (some (.t 19)) none),Mv 2 16,Mv 3 20]
def ahq:LO:=[Bc 21 .add 7 1,Mv 7 21]
def FC:ACode:=(Sr ahu (Sq (Cx 8 0) (Sq (Bk 1 (Sr aht (Sr ahs (Cn 13 (Sq (Rd ahr) Rt) Sk)))) (Rg ahq))))
def MI:LO:=[Mc 2 (.str []),Mc 3 (.str [])]
def f530 : AFunc := ⟨22, 1, false, [.t 2, .t 3], (Sr ahw (Sq (Sr ahv (Bl 0 FC)) (Rr MI)))⟩
def ahp:LO:=[Mc 2 (.str [])]
def aho:LO:=[Mv 4 0,Nc 5 4,Fa 6 0 5,Ld 7 6,Ln 8 0 7,Bc 9 .eql 8 0]
def ahn:LO:=[Mv 10 0,Nc 11 10,Fa 12 1 11,⟨none, .store 1 (.t 12) (.c (.bool true)), none, []⟩]
def ahm:LO:=[Mc 2 (.str [])]
def ahl:LO:=[Mv 13 0,Nc 14 13,Fa 15 0 14,Ld 16 15,Op 17 (.iadr 1 (.t 16) (.c (.int .i64 0))),Ld 18 17,Mv 3 18]
def ahk:LO:=[Mv 19 0,Mv 20 0,Nc 21 20,Fa 22 0 21,Ld 23 22,Op 24 (.slc 1 (.t 23) (some (.c (.int .i64 1))) none none),Nc 25 19,Fa 26 0 25,St 1 26 24]
def ahj:LO:=[Mv 27 3,Mv 2 27]
def f531 : AFunc := ⟨28, 1, false, [.t 2], (Sr ahp (Sq (Sr aho (Cn 9 (Sr ahn (Rr ahm)) Sk)) (Sr ahl (Sr ahk (Rr ahj)))))⟩
def ara:LO:=[Mc 4 (.int .i64 0),Mc 5 (.int .i64 0)]
def aq9:LO:=[Mv 9 0,Ct 10 347 [9],Un 11 .not 10]
def aq8:LO:=[Mc 4 (.int .i64 0),Mc 5 (.int .i64 2)]
def aq7:LO:=[Mc 6 (.int .i64 0)]
def aq6:LO:=[Mv 12 0,Ln 13 1 12,Mc 14 (.int .i64 0)]
def aq5:LO:=[Bi 15 .lss 14 13]
def aq4:LO:=[Mv 16 14,Mv 7 16]
def aq3:LO:=[Mv 17 0,Mv 18 7,Op 19 (.istr (.t 17) (.t 18)),Op 20 (.bin .sub (.t 19) (.c (.int .u8 48))),Cv 21 .i64 20,Mv 8 21]
def aq2:LO:=[Mv 22 6,Mv 23 8,Op 24 (.bin .sub (.c (.int .i64 9223372036854775807)) (.t 23)),Bc 25 .quo 24 10,Bi 26 .gtr 22 25]
def aq1:LO:=[Mc 4 (.int .i64 0),Mc 5 (.int .i64 5)]
def acz:LO:=[Mv 27 6,Op 28 (.bin .mul (.c (.int .i64 10)) (.t 27)),Mv 29 8,Bi 30 .add 28 29,Mv 6 30]
def acy:LO:=[Bc 31 .add 14 1,Mv 14 31]
def Bb:ACode:=(Sr aq5 (Sq (Cx 15 0) (Sq (Bk 1 (Sr aq4 (Sr aq3 (Sq (Sr aq2 (Ci 26 (Rr aq1))) (Rg acz))))) (Rg acy))))
def JI:LO:=[Mv 32 6,Mv 33 1,Bi 34 .gtr 32 33]
def JH:LO:=[Mc 4 (.int .i64 0),Mc 5 (.int .i64 5)]
def JG:LO:=[Mv 35 6,Mv 4 35,Mc 5 (.int .i64 0)]
def f346 : AFunc := ⟨36, 2, false, [.t 4, .t 5], (Sr ara (Sq (Sr aq9 (Ci 11 (Rr aq8))) (Sr aq7 (Sq (Sr aq6 (Bl 0 Bb)) (Sq (Sr JI (Ci 34 (Rr JH))) (Rr JG))))))⟩
def ahi:LO:=[Ld 3 1,Ld 4 1,Nc 5 4,Fa 6 1 5,Af [1] (Ld 7 6),Mv 8 7,Gf 8 (Mv 9 0),Gf 8 (Bc 10 .neq 9 0),Po 11 8 10,Nc 12 3,Fa 13 1 12,Af [0, 4, 1] (St 1 13 11)]
def f532 : AFunc := ⟨14, 2, false, [], (Rd ahi)⟩
def ahh:LO:=[Mc 4 (.int .i64 0)]
def ahg:LO:=[Ld 8 1,Ct 9 531 [8],Mv 10 0,Ct 11 346 [9, 10],Mv 7 11,Ex 12 7 0,Ex 13 7 1,Mv 5 12,Mv 6 13]
def ahf:LO:=[Ld 14 2,Mv 15 6,Op 16 (.call (.t 14) [(.t 15)])]
def ahe:LO:=[Mv 17 5,Mv 4 17]
def f533 : AFunc := ⟨18, 3, false, [.t 4], (Sr ahh (Sr ahg (Sr ahf (Rr ahe))))⟩
def ahd:LO:=[Op 2 (.alloc (.agg zz5))]
def ahc:LO:=[Ld 6 0,Ct 7 531 [6],Ct 8 233 [7],Mv 5 8,Ex 9 5 0,Ex 10 5 1,Op 3 (.alloc (.agg zz5)),St 2 3 9,Mv 4 10]
def ahb:LO:=[Ld 11 1,Mv 12 4,Op 13 (.call (.t 11) [(.t 12)])]
def aha:LO:=[Ls 14 2 3,St 2 2 14]
def f534 : AFunc := ⟨15, 2, false, [.cell 2 (some 2)], (Sr ahd (Sr ahc (Sr ahb (Rr aha))))⟩
def asb:LO:=[Op 2 (.alloc (.agg zz5)),Mc 3 (.int .i64 0)]
def asa:LO:=[Mv 13 0,Ca 14 252 [(.t 13), (.c (.str [47]))],Mv 12 14,Ex 15 12 0,Ex 16 12 1,Ex 17 12 2,Mv 4 15,Mv 5 16,Mv 6 17]
def ar9:LO:=[Mv 19 4,Ct 20 231 [19],Mv 18 20,Ex 21 18 0,Ex 22 18 1,Mv 7 21,Mv 8 22]
def ar8:LO:=[Mv 24 5,Ca 25 250 [(.t 24), (.c (.int .i64 32))],Mv 23 25,Ex 26 23 0,Ex 27 23 1,Mv 9 26,Mv 10 27]
def ar7:LO:=[Mv 28 6,Un 29 .not 28,Mv 30 29,Gf 30 (Mv 31 8),Gf 30 (Bc 32 .neq 31 0),Po 33 30 32,Mv 34 33,Gf 34 (Mv 35 10),Gf 34 (Un 36 .not 35),Po 37 34 36]
def ar6:LO:=[Op 38 (.build zz5 [] []),St 2 2 38,Mc 3 (.int .i64 2)]
def ar5:LO:=[Mv 39 7,Mv 40 9,Op 41 (.build zz5 [(0, 1), (1, 1)] [(.t 39), (.t 40)]),Op 11 (.alloc (.agg zz5)),St 2 11 41]
def ar4:LO:=[Ls 42 2 11,Ct 43 178 [42],Un 44 .not 43]
def ar3:LO:=[Op 45 (.build zz5 [] []),St 2 2 45,Mc 3 (.int .i64 1)]
def ar2:LO:=[Ls 46 2 11,St 2 2 46,Mc 3 (.int .i64 0)]
def f233 : AFunc := ⟨47, 1, false, [.cell 2 (some 2), .t 3], (Sr asb (Sr asa (Sr ar9 (Sr ar8 (Sq (Sr ar7 (Ci 37 (Rr ar6))) (Sr ar5 (Sq (Sr ar4 (Ci 44 (Rr ar3))) (Rr ar2))))))))⟩
def ag9:LO:=[Mc 2 (.int .u32 0)]
def ag8:LO:=[Ld 6 0,Ct 7 531 [6],Ct 8 231 [7],Mv 5 8,Ex 9 5 0,Ex 10 5 1,Mv 3 9,Mv 4 10]
def ag7:LO:=[Ld 11 1,Mv 12 4,Op 13 (.call (.t 11) [(.t 12)])]
def ag6:LO:=[Mv 14 3,Mv 2 14]
def f535 : AFunc := ⟨15, 2, false, [.t 2], (Sr ag9 (Sr ag8 (Sr ag7 (Rr ag6))))⟩
def asm:LO:=[Mc 2 (.int .u32 0),Mc 3 (.int .i64 0)]
def asl:LO:=[Mv 10 0,Ca 11 249 [(.t 10), (.c (.str [46]))],Mv 4 11]
def asj:LO:=[Mv 12 4,Ln 13 0 12,Bc 14 .neq 13 4]
def asi:LO:=[Mc 2 (.int .u32 0),Mc 3 (.int .i64 2)]
def ash:LO:=[Mc 5 (.int .u32 0)]
def asg:LO:=[Mv 15 4,Ln 16 0 15,Mc 17 (.int .i64 0)]
def asf:LO:=[Bi 18 .lss 17 16]
def ase:LO:=[Ia 19 1 15 17,Ld 20 19,Mv 7 20]
def asd:LO:=[Mv 22 7,Ca 23 250 [(.t 22), (.c (.int .i64 255))],Mv 21 23,Ex 24 21 0,Ex 25 21 1,Mv 8 24,Mv 9 25]
def asc:LO:=[Mv 26 9,Un 27 .not 26]
def acF:LO:=[Mc 2 (.int .u32 0),Mc 3 (.int .i64 2)]
def acE:LO:=[Mv 28 5,Op 29 (.bin .shl (.t 28) (.c (.int .u64 8))),Mv 30 8,Cv 31 .u32 30,Bi 32 .or 29 31,Mv 5 32]
def acD:LO:=[Bc 33 .add 17 1,Mv 17 33]
def Bh:ACode:=(Sr asf (Sq (Cx 18 0) (Sq (Bk 1 (Sr ase (Sr asd (Sq (Sr asc (Ci 27 (Rr acF))) (Rg acE))))) (Rg acD))))
def JL:LO:=[Mv 34 5,Mv 2 34,Mc 3 (.int .i64 0)]
def f231 : AFunc := ⟨35, 1, false, [.t 2, .t 3], (Sr asm (Sr asl (Sq (Sr asj (Ci 14 (Rr asi))) (Sr ash (Sq (Sr asg (Bl 0 Bh)) (Rr JL))))))⟩
def ag5:LO:=[Mc 1 (.str [])]
def ag4:LO:=[Ld 4 0,Ct 5 531 [4],Mv 2 5]
def ag3:LO:=[Mv 6 2,Ln 7 1 6,Mc 8 (.int .i64 0)]
def ag2:LO:=[Bi 9 .lss 8 7]
def ag1:LO:=[Mv 10 8,Mv 3 10]
def ag0:LO:=[Ld 11 0,Ld 12 0,Nc 13 12,Fa 14 1 13,Af [1] (Ld 15 14),Mv 16 15,Gf 16 (Mv 17 2),Gf 16 (Mv 18 3),Gf 16 (Op 19 (.istr (.t 17) (.t 18))),Gf 16 (Op 20 (.bin .eql (.t 19) (.c (.int .u8 58)))),Po 21 16 20,Nc 22 11,Fa 23 1 22,Af [0, 4, 1] (St 1 23 21)]
def agZ:LO:=[Bc 24 .add 8 1,Mv 8 24]
def FB:ACode:=(Sr ag2 (Sq (Cx 9 0) (Sq (Bk 1 (Sr ag1 (Rd ag0))) (Rg agZ))))
def MH:LO:=[Mv 25 2,Mv 1 25]
def f537 : AFunc := ⟨26, 1, false, [.t 1], (Sr ag5 (Sr ag4 (Sq (Sr ag3 (Bl 0 FB)) (Rr MH))))⟩
def agY:LO:=[Op 3 (.box (.t 1)),Mc 4 (.int .i64 0)]
def agX:LO:=[Mv 8 0,Ct 9 531 [8],Mv 5 9]
def agW:LO:=[Ls 10 4 3,Mc 11 (.int .i64 0)]
def agV:LO:=[Bc 12 .lss 11 4]
def agU:LO:=[Mv 13 11,Op 14 (.ival 4 1 none (.t 10) (.t 11)),Mv 6 13,Mv 7 14]
def agT:LO:=[Mv 15 6,Bc 16 .gtr 15 0,Mv 17 16,Gt 17 (Mv 18 7),Gt 17 (Mv 19 5),Gt 17 (Bi 20 .eql 18 19),Pa 21 17 20]
def agS:LO:=[Mv 22 6,Mv 4 22]
def agR:LO:=[Bc 23 .add 11 1,Mv 11 23]
def Fy:ACode:=(Sr agV (Sq (Cx 12 0) (Sq (Bk 1 (Sr agU (Sr agT (Ci 21 (Rr agS))))) (Rg agR))))
def MG:LO:=[Mv 24 0,Nc 25 24,Fa 26 1 25,⟨none, .store 1 (.t 26) (.c (.bool true)), none, []⟩]
def FA:LO:=[Mc 4 (.int .i64 0)]
def f538 : AFunc := ⟨27, 2, false, [.t 4], (Sr agY (Sr agX (Sq (Sr agW (Bl 0 Fy)) (Sr MG (Rr FA)))))⟩
def ahO:LO:=[Op 1 (.box (.t 0)),Op 2 (.alloc (.agg J3))]
def ahN:LO:=[Op 3 (.alloc (.agg J3))]
def ahM:LO:=[Fa 12 0 1,Ld 13 12,Ln 14 0 13,Mc 15 (.int .i64 0)]
def ahL:LO:=[Bi 16 .lss 15 14]
def ahK:LO:=[Ia 17 2 13 15,Ls 18 2 17,Op 5 (.alloc (.agg zz2)),St 2 5 18]
def ahJ:LO:=[Op 19 (.iarr 4 1 (.t 3) (.c (.int .i64 0))),Ld 20 19,Fa 21 0 5,Ld 22 21,Op 23 (.bsl 1 zz1 1 [0] [(.t 22)]),Ap 24 1 16 20 23,Op 25 (.iarr 4 1 (.t 3) (.c (.int .i64 0))),St 1 25 24]
def ahI:LO:=[Bc 26 .add 15 1,Mv 15 26]
def FE:ACode:=(Sr ahL (Sq (Cx 16 0) (Sq (Bk 1 (Sr ahK (Rg ahJ))) (Rg ahI))))
def MJ:LO:=[Fa 27 1 1,Ld 28 27,Ln 29 0 28,Mc 30 (.int .i64 0)]
def ahH:LO:=[Bi 31 .lss 30 29]
def Uy:LO:=[Ia 32 2 28 30,Ls 33 2 32,Op 7 (.alloc (.agg zz2)),St 2 7 33]
def Ux:LO:=[Op 34 (.iarr 4 1 (.t 3) (.c (.int .i64 1))),Ld 35 34,Fa 36 0 7,Ld 37 36,Op 38 (.bsl 1 zz1 1 [0] [(.t 37)]),Ap 39 1 16 35 38,Op 40 (.iarr 4 1 (.t 3) (.c (.int .i64 1))),St 1 40 39]
def Uw:LO:=[Bc 41 .add 30 1,Mv 30 41]
def qg:ACode:=(Sr ahH (Sq (Cx 31 2) (Sq (Bk 3 (Sr Uy (Rg Ux))) (Rg Uw))))
def tJ:LO:=[Fa 42 2 1,Ld 43 42,Ln 44 0 43,Mc 45 (.int .i64 0)]
def Uv:LO:=[Bi 46 .lss 45 44]
def Ut:LO:=[Ia 47 2 43 45,Ls 48 2 47,Op 9 (.alloc (.agg zz2)),St 2 9 48]
def Ur:LO:=[Op 49 (.iarr 4 1 (.t 3) (.c (.int .i64 2))),Ld 50 49,Fa 51 0 9,Ld 52 51,Op 53 (.bsl 1 zz1 1 [0] [(.t 52)]),Ap 54 1 16 50 53,Op 55 (.iarr 4 1 (.t 3) (.c (.int .i64 2))),St 1 55 54]
def Uq:LO:=[Bc 56 .add 45 1,Mv 45 56]
def mf:ACode:=(Sr Uv (Sq (Cx 46 4) (Sq (Bk 5 (Sr Ut (Rg Ur))) (Rg Uq))))
def om:LO:=[Fa 57 3 1,Ld 58 57,Ln 59 0 58,Mc 60 (.int .i64 0)]
def Uo:LO:=[Bi 61 .lss 60 59]
def Um:LO:=[Ia 62 3 58 60,Ls 63 3 62,Op 11 (.alloc (.agg zz8)),St 3 11 63]
def Ul:LO:=[Op 64 (.iarr 4 1 (.t 3) (.c (.int .i64 3))),Ld 65 64,Fa 66 0 11,Ld 67 66,Op 68 (.bsl 1 zz1 1 [0] [(.t 67)]),Ap 69 1 16 65 68,Op 70 (.iarr 4 1 (.t 3) (.c (.int .i64 3))),St 1 70 69]
def Uk:LO:=[Bc 71 .add 60 1,Mv 60 71]
def jN:ACode:=(Sr Uo (Sq (Cx 61 6) (Sq (Bk 7 (Sr Um (Rg Ul))) (Rg Uk))))
def kR:LO:=[Ls 72 4 3,St 4 2 72]
def f507 : AFunc := ⟨73, 1, false, [.cell 2 (some 4)], (Sr ahO (Sr ahN (Sq (Sr ahM (Bl 0 FE)) (Sq (Sr MJ (Bl 2 qg)) (Sq (Sr tJ (Bl 4 mf)) (Sq (Sr om (Bl 6 jN)) (Rr kR)))))))⟩
def ahG:LO:=[Mc 6 (.int .i64 0)]
def ahF:LO:=[Mv 11 0,Ln 12 0 11,Bc 13 .gtr 12 64]
def ahE:LO:=[Mc 6 (.int .i64 4)]
def ahD:LO:=[Mv 14 0,Ln 15 0 14,Mc 16 (.int .i64 0)]
def ahC:LO:=[Bi 17 .lss 16 15]
def ahB:LO:=[Mv 18 16,Ia 19 1 14 16,Ld 20 19,Mv 7 18,Mv 8 20]
def ahA:LO:=[Mv 21 0,Mv 22 7,Op 23 (.slc 1 (.t 21) none (some (.t 22)) none),Mv 24 8,Ct 25 577 [23, 24],Mv 9 25]
def ahz:LO:=[Mv 26 9,Bc 27 .neq 26 0]
def ahy:LO:=[Mv 28 9,Mv 6 28]
def ahx:LO:=[Mv 29 1,Mv 30 7,Op 31 (.call (.t 29) [(.t 30)]),Bc 32 .gtr 31 64]
def Uj:LO:=[Mc 6 (.int .i64 4)]
def Ui:LO:=[Mv 33 2,Mv 34 7,Op 35 (.call (.t 33) [(.t 34)]),Mv 10 35]
def Uh:LO:=[Mv 36 10,Bc 37 .neq 36 0]
def Ug:LO:=[Mv 38 10,Mv 6 38]
def Uf:LO:=[Bc 39 .add 16 1,Mv 16 39]
def zB:ACode:=(Sr ahC (Sq (Cx 17 0) (Sq (Bk 1 (Sr ahB (Sq (Sr ahA (Sr ahz (Ci 27 (Rr ahy)))) (Sq (Sr ahx (Ci 32 (Rr Uj))) (Sr Ui (Sr Uh (Ci 37 (Rr Ug)))))))) (Rg Uf))))
def FD:LO:=[Mc 6 (.int .i64 0)]
def f508 : AFunc := ⟨40, 3, false, [.t 6], (Sr ahG (Sq (Sr ahF (Ci 13 (Rr ahE))) (Sq (Sr ahD (Bl 0 zB)) (Rr FD))))⟩
def agQ:LO:=[Op 1 (.box (.t 0)),Mc 2 (.int .i64 0)]
def agP:LO:=[Fa 4 0 1,Ld 5 4,Ca 6 612 [(.t 5), (.c (.int .i64 1)), (.c (.int .i64 3))],Un 7 .not 6,Mv 3 7]
def agO:LO:=[Mc 2 (.int .i64 15)]
def agN:LO:=[Fa 9 3 1,Ld 10 9,Op 11 (.bin .eql (.t 10) (.c (.int .u32 0))),Mv 12 11,Gf 12 (Fa 13 1 1),Gf 12 (Ls 14 2 13),Gf 12 (Fa 15 3 1),Gf 12 (Ld 16 15),Gf 12 (Ct 17 235 [14, 16]),Gf 12 (Un 18 .not 17),Po 19 12 18,Mv 8 19]
def agM:LO:=[Mc 2 (.int .i64 1)]
def agL:LO:=[Fa 21 5 1,Ld 22 21,Ca 23 612 [(.t 22), (.c (.int .i64 1)), (.c (.int .i64 65535))],Un 24 .not 23,Mv 25 24,Gf 25 (Fa 26 6 1),Gf 25 (Ld 27 26),Gf 25 (Ca 28 612 [(.t 27), (.c (.int .i64 0)), (.c (.int .i64 255))]),Gf 25 (Un 29 .not 28),Po 30 25 29,Mv 31 30,Gf 31 (Fa 32 7 1),Gf 31 (Ld 33 32),Gf 31 (Ca 34 612 [(.t 33), (.c (.int .i64 1)), (.c (.int .i64 65535))]),Gf 31 (Un 35 .not 34),Po 36 31 35,
 Mv 37 36,Gf 37 (Fa 38 8 1),Gf 37 (Ld 39 38),Gf 37 (Fa 40 7 1),Gf 37 (Ld 41 40),Gf 37 (Ca 42 612 [(.t 39), (.t 41), (.c (.int .i64 65535))]),Gf 37 (Un 43 .not 42),Po 44 37 43,Mv 20 44]
def agK:LO:=[Mc 2 (.int .i64 5)]
def agJ:LO:=[Mc 2 (.int .i64 0)]
def f561 : AFunc := ⟨45, 1, false, [.t 2], (Sr agQ (Sq (Bk 0 (Sr agP (Cn 3 (Rr agO) (Sr agN (Cn 8 (Rr agM) (Sr agL (Ci 20 (Rr agK)))))))) (Rr agJ)))⟩
def asV:LO:=[Mc 4 (.int .u32 0)]
def asU:LO:=[Mv 5 0,Mv 6 1,Ct 7 183 [6],Bi 8 .and 5 7,Mv 4 8]
def f181 : AFunc := ⟨9, 2, false, [.t 4], (Sr asV (Rr asU))⟩
def agI:LO:=[Mc 6 (.bool false)]
def agH:LO:=[Mv 7 0,Mv 8 1,Bi 9 .geq 7 8,Mv 10 9,Gt 10 (Mv 11 0),Gt 10 (Mv 12 2),Gt 10 (Bi 13 .leq 11 12),Pa 14 10 13,Mv 6 14]
def f567 : AFunc := ⟨15, 3, false, [.t 6], (Sr agI (Rr agH))⟩
def agF:LO:=[Op 2 (.box (.t 0)),Mc 4 (.bool false)]
def agE:LO:=[Mv 5 1,Fa 6 1 2,Ld 7 6,Af [2] (Ct 8 569 [5, 7]),Fa 9 0 2,Ld 10 9,Bi 11 .eql 8 10,Mv 4 11]
def f568 : AFunc := ⟨12, 2, false, [.t 4], (Sr agF (Sq (Rd agE) Rt))⟩
def agD:LO:=[Mc 4 (.int .u32 0)]
def agC:LO:=[Mv 7 1,Mv 5 7]
def agB:LO:=[Mv 8 5,Bc 9 .lss 8 32]
def agA:LO:=[Mv 12 5,Op 13 (.bin .sub (.c (.int .i64 31)) (.t 12)),Cv 14 .u64 13,Op 15 (.bin .shl (.c (.int .u32 1)) (.t 14)),Mv 6 15]
def agz:LO:=[Mv 16 0,Mv 17 6,Bi 18 .and 16 17,Op 19 (.bin .neq (.t 18) (.c (.int .u32 0)))]
def agy:LO:=[Mv 20 0,Mv 21 6,Bi 22 .sub 20 21,Mv 0 22]
def agx:LO:=[Mv 10 5,Bc 11 .add 10 1,Mv 5 11]
def Fx:ACode:=(Sq (Sr agB (Cx 9 0)) (Sq (Bk 1 (Sr agA (Sr agz (Cn 19 (Rg agy) Sk)))) (Rg agx)))
def MF:LO:=[Mv 23 0,Mv 4 23]
def f569 : AFunc := ⟨24, 2, false, [.t 4], (Sr agD (Sq (Sr agC (Bl 0 Fx)) (Rr MF)))⟩
def Qk:LI:=[.inLoop Fx, .inBlock 0, .code (Rr MF)]
def agw:LO:=[Op 2 (.box (.t 0)),Op 3 (.box (.t 1)),Mc 4 (.bool false)]
def agv:LO:=[Fa 5 0 2,Ld 6 5,Fa 7 0 3,Ld 8 7,Bi 9 .lss 6 8,Mv 10 9,Gf 10 (Fa 11 0 2),Gf 10 (Ld 12 11),Gf 10 (Fa 13 0 3),Gf 10 (Ld 14 13),Gf 10 (Bi 15 .eql 12 14),Gf 10 (Mv 16 15),Gt 16 (Fa 17 1 2),Gt 16 (Ld 18 17),Gt 16 (Fa 19 1 3),Gt 16 (Ld 20 19),Gt 16 (Bi 21 .lss 18 20),Gf 10 (Pa 22 16 21),Po 23 10 22,Mv 4 23]
def f570 : AFunc := ⟨24, 2, false, [.t 4], (Sr agw (Rr agv))⟩
def arI:LO:=[Op 1 (.box (.t 0)),Mc 2 (.int .i64 0)]
def arH:LO:=[Fa 3 1 1,Ls 4 2 3,Ct 5 179 [4],Un 6 .not 5]
def arF:LO:=[Mc 2 (.int .i64 1)]
def arD:LO:=[Fa 7 3 1,Ld 8 7,Fa 9 1 1,Fa 10 1 9,Ld 11 10,Bi 12 .lss 8 11,Mv 13 12,Gf 13 (Fa 14 4 1),Gf 13 (Ld 15 14),Gf 13 (Fa 16 3 1),Gf 13 (Ld 17 16),Gf 13 (Bi 18 .lss 15 17),Po 19 13 18,Mv 20 19,Gf 20 (Fa 21 4 1),Gf 20 (Ld 22 21),Gf 20 (Bc 23 .gtr 22 32),Po 24 20 23]
def arC:LO:=[Mc 2 (.int .i64 5)]
def arB:LO:=[Mc 2 (.int .i64 0)]
def f326 : AFunc := ⟨25, 1, false, [.t 2], (Sr arI (Sq (Sr arH (Ci 6 (Rr arF))) (Sq (Sr arD (Ci 24 (Rr arC))) (Rr arB))))⟩
def agu:LO:=[Op 2 (.alloc (.agg zz0)),Mc 3 (.int .i64 0)]
def agt:LO:=[Mv 7 0,Op 8 (.build [.str [], .int .i64 0] [(0, 1)] [(.t 7)]),Op 9 (.box (.t 8)),Mv 4 9]
def ags:LO:=[Mv 11 4,Ca 12 616 [(.t 11), (.c (.int .i64 1))],Mv 10 12,Ex 13 10 0,Ex 14 10 1,Op 5 (.alloc (.agg zz0)),St 4 5 13,Mv 6 14]
def agr:LO:=[Mv 15 6,Un 16 .not 15,Mv 17 16,Gf 17 (Mv 18 4),Gf 17 (Nc 19 18),Gf 17 (Fa 20 1 19),Gf 17 (Ld 21 20),Gf 17 (Mv 22 0),Gf 17 (Ln 23 1 22),Gf 17 (Bi 24 .lss 21 23),Po 25 17 24,Mv 26 25,Gf 26 (Ls 27 4 5),Gf 26 (Ct 28 617 [27]),Gf 26 (Bc 29 .neq 28 0),Po 30 26 29,Mv 31 30,Gf 31 (Ls 32 4 5),Gf 31 (Ct 33 618 [32]),Gf 31 (Mv 34 0),Gf 31 (Bi 35 .neq 33 34),Po 36 31 35]
def agq:LO:=[Op 37 (.build zz0 [] []),St 4 2 37,Mc 3 (.int .i64 2)]
def agp:LO:=[Ls 38 4 5,St 4 2 38,Mc 3 (.int .i64 0)]
def f571 : AFunc := ⟨39, 1, false, [.cell 2 (some 4), .t 3], (Sr agu (Sr agt (Sr ags (Sq (Sr agr (Ci 36 (Rr agq))) (Rr agp)))))⟩
def ago:LO:=[Op 1 (.box (.t 0)),Mc 2 (.int .i64 0)]
def agn:LO:=[Fa 3 1 1,Ld 4 3,Bc 5 .lss 4 (-1),Mv 6 5,Gf 6 (Fa 7 1 1),Gf 6 (Ld 8 7),Gf 6 (Bc 9 .gtr 8 65535),Po 10 6 9,Mv 11 10,Gf 11 (Fa 12 2 1),Gf 11 (Ld 13 12),Gf 11 (Bc 14 .lss 13 (-1)),Po 15 11 14,Mv 16 15,Gf 16 (Fa 17 2 1),Gf 16 (Ld 18 17),Gf 16 (Bc 19 .gtr 18 65535),Po 20 16 19]
def agm:LO:=[Mc 2 (.int .i64 5)]
def agl:LO:=[Mc 2 (.int .i64 0)]
def f572 : AFunc := ⟨21, 1, false, [.t 2], (Sr ago (Sq (Sr agn (Ci 20 (Rr agm))) (Rr agl)))⟩
def agk:LO:=[Mc 2 (.bool false)]
def agj:LO:=[Mc 3 (.int .i64 0)]
def agi:LO:=[Mv 5 3,Mv 6 0,Ln 7 1 6,Bi 8 .lss 5 7]
def agh:LO:=[Mv 11 0,Mv 12 3,Op 13 (.istr (.t 11) (.t 12)),Mv 4 13]
def agf:LO:=[Mv 14 4,Op 15 (.bin .geq (.t 14) (.c (.int .u8 97))),Mv 16 15,Gt 16 (Mv 17 4),Gt 16 (Op 18 (.bin .leq (.t 17) (.c (.int .u8 122)))),Pa 19 16 18,Mv 20 19,Gf 20 (Mv 21 4),Gf 20 (Op 22 (.bin .geq (.t 21) (.c (.int .u8 65)))),Gf 20 (Mv 23 22),Gt 23 (Mv 24 4),Gt 23 (Op 25 (.bin .leq (.t 24) (.c (.int .u8 90)))),Gf 20 (Pa 26 23 25),Po 27 20 26,Mv 28 27,Gf 28 (Mv 29 4),
 Gf 28 (Op 30 (.bin .geq (.t 29) (.c (.int .u8 48)))),Gf 28 (Mv 31 30),Gt 31 (Mv 32 4),Gt 31 (Op 33 (.bin .leq (.t 32) (.c (.int .u8 57)))),Gf 28 (Pa 34 31 33),Po 35 28 34,Mv 36 35,Gf 36 (Mv 37 4),Gf 36 (Op 38 (.bin .eql (.t 37) (.c (.int .u8 45)))),Po 39 36 38,Un 40 .not 39]
def age:LO:=[Mc 2 (.bool false)]
def agd:LO:=[Mv 9 3,Bc 10 .add 9 1,Mv 3 10]
def Fw:ACode:=(Sq (Sr agi (Cx 8 0)) (Sq (Bk 1 (Sr agh (Sr agf (Ci 40 (Rr age))))) (Rg agd)))
def ME:LO:=[Mv 41 0,Ln 42 1 41,Bc 43 .geq 42 1,Mv 44 43,Gt 44 (Mv 45 0),Gt 44 (Ln 46 1 45),Gt 44 (Bc 47 .leq 46 32),Pa 48 44 47,Mv 2 48]
def f573 : AFunc := ⟨49, 1, false, [.t 2], (Sr agk (Sq (Sr agj (Bl 0 Fw)) (Rr ME)))⟩
def Qj:LI:=[.inLoop Fw, .inBlock 0, .code (Rr ME)]
def agc:LO:=[Op 2 (.box (.t 0)),Op 3 (.box (.t 1)),Mc 4 (.int .i64 0)]
def agb:LO:=[Fa 10 0 3,Ld 11 10,Bc 12 .lss 11 1,Mv 13 12,Gf 13 (Fa 14 0 3),Gf 13 (Ld 15 14),Gf 13 (Bc 16 .gtr 15 8),Po 17 13 16]
def aga:LO:=[Mc 4 (.int .i64 15)]
def af9:LO:=[Fa 19 0 3,Ld 20 19,Ct 21 619 [20],Mv 18 21,Ex 22 18 0,Ex 23 18 1,Ex 24 18 2,Mv 5 22,Mv 6 23,Mv 7 24]
def af8:LO:=[Fa 25 0 3,Ld 26 25,Bc 27 .leq 26 3,Mv 8 27]
def af7:LO:=[Mv 28 8,Un 29 .not 28,Mv 30 29,Gt 30 (Fa 31 1 3),Gt 30 (Ld 32 31),Gt 30 (Op 33 (.bin .neq (.t 32) (.c (.str [])))),Pa 34 30 33,Mv 35 34,Gf 35 (Mv 36 7),Gf 35 (Un 37 .not 36),Gf 35 (Mv 38 37),Gt 38 (Fa 39 2 3),Gt 38 (Ld 40 39),Gt 38 (Bc 41 .neq 40 0),Gf 35 (Pa 42 38 41),Po 43 35 42,Mv 44 43,Gf 44 (Fa 45 0 3),Gf 44 (Ld 46 45),Gf 44 (Bc 47 .neq 46 7),Gf 44 (Mv 48 47),Gt 48 (Fa 49 3 3),
 Gt 48 (Ls 50 2 49),Gt 48 (Op 51 (.build zz5 [] [])),Gt 48 (Op 52 (.eqs [.int, .int] true (.t 50) (.t 51))),Gf 44 (Pa 53 48 52),Po 54 44 53]
def af6:LO:=[Mc 4 (.int .i64 1)]
def af5:LO:=[Mc 9 (.bool true)]
def af4:LO:=[Fa 55 0 3,Ld 56 55]
def af3:LO:=[Bc 58 .eql 56 1,Mv 57 58]
def Ue:LO:=[Ls 60 4 2,Fa 61 1 3,Ld 62 61,Ct 63 620 [60, 62],Mv 59 63,Ex 64 59 0,Ex 65 59 1,Mv 9 65]
def Ud:LO:=[Bc 67 .eql 56 2,Mv 66 67]
def Uc:LO:=[Ls 69 4 2,Fa 70 1 3,Ld 71 70,Ct 72 621 [69, 71],Mv 68 72,Ex 73 68 0,Ex 74 68 1,Mv 9 74]
def Ub:LO:=[Bc 76 .eql 56 3,Mv 75 76]
def Ua:LO:=[Ls 78 4 2,Fa 79 1 3,Ld 80 79,Ct 81 622 [78, 80],Mv 77 81,Ex 82 77 0,Ex 83 77 1,Mv 9 83]
def T8:LO:=[Mv 85 9,Un 86 .not 85,Mv 84 86]
def T7:LO:=[Mc 4 (.int .i64 6)]
def T6:LO:=[Mv 88 7,Mv 89 88,Gt 89 (Fa 90 2 3),Gt 89 (Ld 91 90),Gt 89 (Mv 92 5),Gt 89 (Bi 93 .lss 91 92),Gt 89 (Mv 94 93),Gf 94 (Fa 95 2 3),Gf 94 (Ld 96 95),Gf 94 (Mv 97 6),Gf 94 (Bi 98 .gtr 96 97),Gt 89 (Po 99 94 98),Pa 100 89 99,Mv 87 100]
def TZ:LO:=[Mc 4 (.int .i64 5)]
def TW:LO:=[Fa 102 3 3,Ls 103 2 102,Ct 104 179 [103],Un 105 .not 104,Mv 101 105]
def TV:LO:=[Mc 4 (.int .i64 1)]
def TU:LO:=[Mc 4 (.int .i64 0)]
def f574 : AFunc := ⟨106, 2, false, [.t 4], (Sr agc (Sq (Sr agb (Ci 17 (Rr aga))) (Sr af9 (Sr af8 (Sq (Sr af7 (Ci 54 (Rr af6))) (Sr af5 (Sq (Sr af4 (Bk 0 (Sr af3 (Cn 57 (Rg Ue) (Sr Ud (Cn 66 (Rg Uc) (Sr Ub (Cn 75 (Rg Ua) Sk)))))))) (Sq (Bk 1 (Sr T8 (Cn 84 (Rr T7) (Sr T6 (Cn 87 (Rr TZ) (Sr TW (Ci 101 (Rr TV)))))))) (Rr TU)))))))))⟩
def af2:LO:=[Op 1 (.box (.t 0)),Mc 2 (.int .i64 0)]
def af1:LO:=[Mc 3 (.int .i64 4294967295)]
def af0:LO:=[Fa 5 0 1,Ld 6 5,Op 7 (.build Oz [(0, 1)] [(.t 6)]),Op 4 (.alloc (.agg Oz)),St 5 4 7]
def afZ:LO:=[Fa 8 0 1,Ld 9 8]
def afY:LO:=[Bc 11 .eql 9 1,Mv 10 11]
def afX:LO:=[Bc 12 .eql 9 2,Mv 10 12]
def afW:LO:=[Bc 13 .eql 9 4,Mv 10 13]
def afV:LO:=[Fa 14 1 1,Ld 15 14,Fa 16 1 4,St 1 16 15]
def afU:LO:=[Bc 18 .eql 9 3,Mv 17 18]
def afT:LO:=[Fa 19 1 1,Ld 20 19,Fa 21 1 4,St 1 21 20]
def TR:LO:=[Mc 3 (.int .i64 16777216)]
def TK:LO:=[Bc 23 .eql 9 5,Mv 22 23]
def TJ:LO:=[Fa 24 4 1,Ld 25 24,Fa 26 4 4,St 1 26 25]
def TD:LO:=[Bc 28 .eql 9 6,Mv 27 28]
def Tz:LO:=[Bc 29 .eql 9 7,Mv 27 29]
def Tw:LO:=[Fa 30 3 1,Ld 31 30,Fa 32 3 4,St 1 32 31]
def Tv:LO:=[Bc 34 .eql 9 8,Mv 33 34]
def Tu:LO:=[Fa 35 1 1,Ld 36 35,Fa 37 1 4,St 1 37 36]
def Tr:LO:=[Fa 38 2 1,Ld 39 38,Fa 40 2 4,St 1 40 39]
def Tq:LO:=[Mc 3 (.int .i64 16)]
def Tp:LO:=[Mc 2 (.int .i64 15)]
def Tn:LO:=[Ls 41 5 1,Ls 42 5 4,Op 43 (.eqs [.int, .int, .int, .int, .int] true (.t 41) (.t 42))]
def Tl:LO:=[Mc 2 (.int .i64 1)]
def Tk:LO:=[Fa 44 1 1,Ld 45 44,Bc 46 .lss 45 0,Mv 47 46,Gf 47 (Fa 48 1 1),Gf 47 (Ld 49 48),Gf 47 (Mv 50 3),Gf 47 (Bi 51 .gtr 49 50),Po 52 47 51]
def Tj:LO:=[Mc 2 (.int .i64 5)]
def Th:LO:=[Fa 53 0 1,Ld 54 53,Bc 55 .eql 54 5,Mv 56 55,Gt 56 (Fa 57 4 1),Gt 56 (Ld 58 57),Gt 56 (Op 59 (.bin .eql (.t 58) (.c (.int .u32 0)))),Pa 60 56 59,Mv 61 60,Gf 61 (Fa 62 0 1),Gf 61 (Ld 63 62),Gf 61 (Bc 64 .eql 63 8),Gf 61 (Mv 65 64),Gt 65 (Fa 66 1 1),Gt 65 (Ld 67 66),Gt 65 (Bc 68 .lss 67 1),Gt 65 (Mv 69 68),Gf 69 (Fa 70 2 1),Gf 69 (Ld 71 70),Gf 69 (Bc 72 .lss 71 1),Gt 65 (Po 73 69 72),
 Gt 65 (Mv 74 73),Gf 74 (Fa 75 2 1),Gf 74 (Ld 76 75),Gf 74 (Bc 77 .gtr 76 4294967295),Gt 65 (Po 78 74 77),Gf 61 (Pa 79 65 78),Po 80 61 79]
def Tg:LO:=[Mc 2 (.int .i64 5)]
def Tf:LO:=[Mc 2 (.int .i64 0)]
def f575 : AFunc := ⟨81, 1, false, [.t 2], (Sr af2 (Sr af1 (Sr af0 (Sq (Sr afZ (Bk 0 (Sq (Sr afY (Cn 10 Sk (Sr afX (Cn 10 Sk (Rg afW))))) (Cn 10 (Rg afV) (Sr afU (Cn 17 (Sr afT (Rg TR)) (Sr TK (Cn 22 (Rg TJ) (Sq (Sr TD (Cn 27 Sk (Rg Tz))) (Cn 27 (Rg Tw) (Sr Tv (Cn 33 (Sr Tu (Sr Tr (Rg Tq))) (Rr Tp))))))))))))) (Sq (Sr Tn (Ci 43 (Rr Tl))) (Sq (Sr Tk (Ci 52 (Rr Tj))) (Sq (Sr Th (Ci 80 (Rr Tg))) (Rr Tf))))))))⟩
def afS:LO:=[Op 2 (.box (.t 0)),Op 3 (.box (.t 1)),Mc 4 (.int .i64 0)]
def afR:LO:=[Fa 6 0 3,Ld 7 6,Bc 8 .lss 7 1,Mv 9 8,Gf 9 (Fa 10 0 3),Gf 9 (Ld 11 10),Gf 9 (Bc 12 .gtr 11 3),Po 13 9 12,Mv 5 13]
def afQ:LO:=[Mc 4 (.int .i64 15)]
def afP:LO:=[Fa 15 1 3,Ld 16 15,Bc 17 .lss 16 1,Mv 18 17,Gf 18 (Fa 19 1 3),Gf 18 (Ld 20 19),Gf 18 (Bc 21 .gtr 20 4294967295),Po 22 18 21,Mv 14 22]
def afO:LO:=[Mc 4 (.int .i64 5)]
def afN:LO:=[Fa 24 0 3,Ld 25 24,Bc 26 .eql 25 3,Fa 27 1 3,Ld 28 27,Fa 29 0 2,Ld 30 29,Bi 31 .eql 28 30,Op 32 (.eqb true (.t 26) (.t 31)),Mv 33 32,Gf 33 (Fa 34 1 3),Gf 33 (Ld 35 34),Gf 33 (Fa 36 1 2),Gf 33 (Ld 37 36),Gf 33 (Bi 38 .eql 35 37),Po 39 33 38,Mv 40 39,Gf 40 (Fa 41 0 3),Gf 40 (Ld 42 41),Gf 40 (Bc 43 .eql 42 2),Gf 40 (Mv 44 43),Gt 44 (Fa 45 1 2),Gt 44 (Ld 46 45),Gt 44 (Bc 47 .eql 46 0),
 Gf 40 (Pa 48 44 47),Po 49 40 48,Mv 23 49]
def afM:LO:=[Mc 4 (.int .i64 14)]
def afL:LO:=[Mc 4 (.int .i64 0)]
def f576 : AFunc := ⟨50, 2, false, [.t 4], (Sr afS (Sq (Bk 0 (Sr afR (Cn 5 (Rr afQ) (Sr afP (Cn 14 (Rr afO) (Sr afN (Ci 23 (Rr afM)))))))) (Rr afL)))⟩
def asH:LO:=[Mc 4 (.int .i64 0)]
def asG:LO:=[Mv 5 0,Op 6 (.minmax true [(.t 5), (.c (.int .i64 0))]),Mv 7 1,Op 8 (.minmax false [(.t 6), (.t 7)]),Mv 4 8]
def f184 : AFunc := ⟨9, 2, false, [.t 4], (Sr asH (Rr asG))⟩
def asF:LO:=[Mc 4 (.int .i64 0)]
def asE:LO:=[Mv 5 1,Bc 6 .lss 5 0,Mv 7 6,Gf 7 (Mv 8 1),Gf 7 (Bc 9 .gtr 8 31),Po 10 7 9]
def asD:LO:=[Mc 4 (.int .i64 0)]
def asC:LO:=[Mv 11 0,Mv 12 1,Op 13 (.bin .sub (.c (.int .i64 31)) (.t 12)),Cv 14 .u64 13,Bi 15 .shr 11 14,Op 16 (.bin .and (.t 15) (.c (.int .u32 1))),Cv 17 .i64 16,Mv 4 17]
def f185 : AFunc := ⟨18, 2, false, [.t 4], (Sr asF (Sq (Sr asE (Ci 10 (Rr asD))) (Rr asC)))⟩
def aq0:LO:=[Mc 2 (.bool false)]
def aqZ:LO:=[Mv 4 0,Op 5 (.bin .eql (.t 4) (.c (.str []))),Mv 6 5,Gf 6 (Mv 7 0),Gf 6 (Ln 8 1 7),Gf 6 (Bc 9 .gtr 8 1),Gf 6 (Mv 10 9),Gt 10 (Mv 11 0),Gt 10 (Op 12 (.istr (.t 11) (.c (.int .i64 0)))),Gt 10 (Op 13 (.bin .eql (.t 12) (.c (.int .u8 48)))),Gf 6 (Pa 14 10 13),Po 15 6 14]
def aqY:LO:=[Mc 2 (.bool false)]
def aqX:LO:=[Mv 16 0,Ln 17 1 16,Mc 18 (.int .i64 0)]
def aqW:LO:=[Bi 19 .lss 18 17]
def aqV:LO:=[Mv 20 18,Mv 3 20]
def aqU:LO:=[Mv 21 0,Mv 22 3,Op 23 (.istr (.t 21) (.t 22)),Op 24 (.bin .lss (.t 23) (.c (.int .u8 48))),Mv 25 24,Gf 25 (Mv 26 0),Gf 25 (Mv 27 3),Gf 25 (Op 28 (.istr (.t 26) (.t 27))),Gf 25 (Op 29 (.bin .gtr (.t 28) (.c (.int .u8 57)))),Po 30 25 29]
def aqT:LO:=[Mc 2 (.bool false)]
def aqS:LO:=[Bc 31 .add 18 1,Mv 18 31]
def JE:ACode:=(Sr aqW (Sq (Cx 19 0) (Sq (Bk 1 (Sr aqV (Sr aqU (Ci 30 (Rr aqT))))) (Rg aqS))))
def JF:LO:=[Mc 2 (.bool true)]
def f347 : AFunc := ⟨32, 1, false, [.t 2], (Sr aq0 (Sq (Sr aqZ (Ci 15 (Rr aqY))) (Sq (Sr aqX (Bl 0 JE)) (Rr JF))))⟩
def arT:LO:=[Mc 4 (.int .i64 0),Mc 5 (.bool false)]
def arS:LO:=[Mv 9 0,Ct 10 263 [9],Mv 8 10,Ex 11 8 0,Ex 12 8 1,Mv 6 11,Mv 7 12]
def arQ:LO:=[Mv 13 6,Mv 14 7,Op 15 (.eqn .iface false (.t 14) (.c (.con (.nilIface)))),Mv 16 15,Gt 16 (Mv 17 6),Gt 16 (Bc 18 .geq 17 0),Pa 19 16 18,Mv 20 19,Gt 20 (Mv 21 6),Gt 20 (Mv 22 1),Gt 20 (Bi 23 .leq 21 22),Pa 24 20 23,Mv 25 24,Gt 25 (Mv 26 6),Gt 25 (Ct 27 246 [26]),Gt 25 (Mv 28 0),Gt 25 (Bi 29 .eql 27 28),Pa 30 25 29,Mv 4 13,Mv 5 30]
def f250 : AFunc := ⟨31, 2, false, [.t 4, .t 5], (Sr arT (Sr arS (Rr arQ)))⟩
def afK:LO:=[Mc 6 (.bool false)]
def afJ:LO:=[Mv 7 0,Mv 8 1,Bi 9 .geq 7 8,Mv 10 9,Gt 10 (Mv 11 0),Gt 10 (Mv 12 2),Gt 10 (Bi 13 .leq 11 12),Pa 14 10 13,Mv 6 14]
def f612 : AFunc := ⟨15, 3, false, [.t 6], (Sr afK (Rr afJ))⟩
def ar1:LO:=[Op 2 (.box (.t 0)),Mc 4 (.bool false)]
def ar0:LO:=[Ls 5 2 2,Af [0] (Ct 6 178 [5]),Mv 7 6,Gt 7 (Mv 8 1),Gt 7 (Fa 9 1 2),Af [1, 0] (Gt 7 (Ld 10 9)),Af [5, 1, 0] (Gt 7 (Ct 11 245 [8, 10])),Af [1, 0] (Gt 7 (Ls 12 2 2)),Gt 7 (Op 13 (.eqs [.int, .int] false (.t 11) (.t 12))),Pa 14 7 13,Mv 4 14]
def f235 : AFunc := ⟨15, 2, false, [.t 4], (Sr ar1 (Sq (Rd ar0) Rt))⟩
def asJ:LO:=[Mc 2 (.int .u32 0)]
def asI:LO:=[Mv 3 0,Ca 4 186 [(.t 3), (.c (.int .i64 32))],Op 5 (.bin .sub (.c (.int .i64 32)) (.t 4)),Op 6 (.bin .shl (.c (.int .u32 4294967295)) (.t 5)),Mv 2 6]
def f183 : AFunc := ⟨7, 1, false, [.t 2], (Sr asJ (Rr asI))⟩
def afI:LO:=[Op 4 (.alloc (.agg zz0)),Mc 5 (.bool false)]
def afH:LO:=[Mc 6 (.con (.slice none 0 0))]
def afG:LO:=[Mv 10 0,Mv 11 1,Ct 12 641 [10, 11],Mv 9 12,Ex 13 9 0,Ex 14 9 1,Op 7 (.alloc (.agg zz0)),St 4 7 13,Mv 8 14]
def afF:LO:=[Mv 15 8,Un 16 .not 15]
def afE:LO:=[Op 17 (.build zz0 [] []),St 4 4 17,Mc 5 (.bool false)]
def afD:LO:=[Mv 18 6,Ls 19 4 7,Op 20 (.bsl 4 zz0 1 [0] [(.t 19)]),Ap 21 4 48 18 20,Mv 6 21]
def afC:LO:=[Mv 22 0,Ca 23 642 [(.t 22), (.c (.int .u8 124))],Un 24 .not 23]
def Ft:ACode:=(Bk 1 (Sr afG (Sq (Sr afF (Ci 16 (Rr afE))) (Sr afD (Sr afC (Cn 24 (Xt 0) Sk))))))
def MD:LO:=[Mv 25 6,Ln 26 0 25,Bc 27 .eql 26 1]
def MC:LO:=[Mv 28 6,Op 29 (.iadr 4 (.t 28) (.c (.int .i64 0))),Ls 30 4 29,St 4 4 30,Mc 5 (.bool true)]
def Fu:LO:=[Mv 31 6,Op 32 (.build zz0 [(0, 1), (3, 1)] [(.c (.int .i64 4)), (.t 31)]),St 4 4 32,Mc 5 (.bool true)]
def f616 : AFunc := ⟨33, 2, false, [.cell 4 (some 4), .t 5], (Sr afI (Sr afH (Sq (Bl 0 Ft) (Sq (Sr MD (Ci 27 (Rr MC))) (Rr Fu)))))⟩
def Qi:LI:=[.inLoop Ft, .inBlock 0, .code (Sq (Sr MD (Ci 27 (Rr MC))) (Rr Fu))]
def afB:LO:=[Op 1 (.box (.t 0)),Mc 2 (.int .i64 0)]
def afA:LO:=[Ls 6 4 1,Ca 7 643 [(.t 6), (.c (.int .i64 1)), (.c (.int .i64 0))],Mv 5 7,Ex 8 5 0,Ex 9 5 1,Mv 3 8,Mv 4 9]
def afz:LO:=[Mv 10 4,Mv 2 10]
def f617 : AFunc := ⟨11, 1, false, [.t 2], (Sr afB (Sr afA (Rr afz)))⟩
def afy:LO:=[Op 1 (.box (.t 0)),Mc 2 (.str [])]
def afx:LO:=[Mc 3 (.con (.slice none 0 0))]
def afw:LO:=[Fa 7 3 1,Ld 8 7,Ln 9 0 8,Mc 10 (.int .i64 0)]
def afv:LO:=[Bi 11 .lss 10 9]
def afu:LO:=[Ia 12 4 8 10,Ls 13 4 12,Op 5 (.alloc (.agg zz0)),St 4 5 13]
def aft:LO:=[Ls 14 4 5,Ct 15 618 [14],Mv 6 15]
def afs:LO:=[Ls 16 4 1,Ls 17 4 5,Ct 18 644 [16, 17]]
def afr:LO:=[Mv 19 6,Op 20 (.bin .add (.c (.str [40])) (.t 19)),Op 21 (.bin .add (.t 20) (.c (.str [41]))),Mv 6 21]
def afq:LO:=[Mv 22 3,Mv 23 6,Op 24 (.bsl 1 zz1 1 [0] [(.t 23)]),Ap 25 1 16 22 24,Mv 3 25]
def afp:LO:=[Bc 26 .add 10 1,Mv 10 26]
def zy:ACode:=(Sr afv (Sq (Cx 11 0) (Sq (Bk 1 (Sr afu (Sr aft (Sq (Sr afs (Cn 18 (Rg afr) Sk)) (Rg afq))))) (Rg afp))))
def Fq:LO:=[Fa 27 0 1,Ld 28 27]
def Fp:LO:=[Bc 30 .eql 28 0,Mv 29 30]
def Fm:LO:=[Mc 2 (.str [40, 41])]
def Fk:LO:=[Bc 32 .eql 28 1,Mv 31 32]
def Fj:LO:=[Fa 33 1 1,Ld 34 33,Fa 35 2 1,Ld 36 35,Bi 37 .eql 34 36]
def Fh:LO:=[Fa 38 1 1,Ld 39 38,Ct 40 338 [39],Mv 2 40]
def Fg:LO:=[Fa 41 1 1,Ld 42 41,Af [1] (Ct 43 338 [42]),Op 44 (.bin .add (.c (.str [91])) (.t 43)),Op 45 (.bin .add (.t 44) (.c (.str [45]))),Fa 46 2 1,Ld 47 46,Af [6, 2, 1] (Ct 48 338 [47]),Bi 49 .add 45 48,Op 50 (.bin .add (.t 49) (.c (.str [93]))),Mv 2 50]
def Ff:LO:=[Bc 52 .eql 28 2,Mv 51 52]
def Fe:LO:=[Mc 2 (.str [46])]
def Fd:LO:=[Bc 54 .eql 28 3,Mv 53 54]
def Fc:LO:=[Mv 55 3,Ca 56 645 [(.t 55), (.c (.str [32]))],Mv 2 56]
def Fb:LO:=[Bc 58 .eql 28 4,Mv 57 58]
def E9:LO:=[Mv 59 3,Ln 60 0 59,Bc 61 .eql 60 0]
def E8:LO:=[Mc 2 (.str [33])]
def E7:LO:=[Mv 62 3,Ca 63 645 [(.t 62), (.c (.str [124]))],Mv 2 63]
def EZ:LO:=[Bc 65 .eql 28 5,Mv 64 65]
def EY:LO:=[Mv 66 3,Op 67 (.iadr 1 (.t 66) (.c (.int .i64 0))),Ld 68 67,Op 69 (.bin .add (.t 68) (.c (.str [42]))),Mv 2 69]
def EW:LO:=[Bc 71 .eql 28 6,Mv 70 71]
def EU:LO:=[Mv 72 3,Op 73 (.iadr 1 (.t 72) (.c (.int .i64 0))),Ld 74 73,Op 75 (.bin .add (.t 74) (.c (.str [43]))),Mv 2 75]
def EO:LO:=[Mv 76 3,Op 77 (.iadr 1 (.t 76) (.c (.int .i64 0))),Ld 78 77,Op 79 (.bin .add (.t 78) (.c (.str [63]))),Mv 2 79]
def f618 : AFunc := ⟨80, 1, false, [.t 2], (Sr afy (Sr afx (Sq (Sr afw (Bl 0 zy)) (Sq (Sr Fq (Bk 2 (Sr Fp (Cn 29 (Rr Fm) (Sr Fk (Cn 31 (Sq (Sr Fj (Ci 37 (Rr Fh))) (Sq (Rd Fg) Rt)) (Sr Ff (Cn 51 (Rr Fe) (Sr Fd (Cn 53 (Rr Fc) (Sr Fb (Cn 57 (Sq (Sr E9 (Ci 61 (Rr E8))) (Rr E7)) (Sr EZ (Cn 64 (Rr EY) (Sr EW (Ci 70 (Rr EU))))))))))))))))) (Rr EO)))))⟩
def kf:LI:=[.inLoop zy, .inBlock 0, .code (Sq (Sr Fq (Bk 2 (Sr Fp (Cn 29 (Rr Fm) (Sr Fk (Cn 31 (Sq (Sr Fj (Ci 37 (Rr Fh))) (Sq (Rd Fg) Rt)) (Sr Ff (Cn 51 (Rr Fe) (Sr Fd (Cn 53 (Rr Fc) (Sr Fb (Cn 57 (Sq (Sr E9 (Ci 61 (Rr E8))) (Rr E7)) (Sr EZ (Cn 64 (Rr EY) (Sr EW (Ci 70 (Rr EU))))))))))))))))) (Rr EO))]
def afo:LO:=[Mc 2 (.int .i64 0),Mc 3 (.int .i64 0),Mc 4 (.bool false)]
def afn:LO:=[Mv 5 0]
def afm:LO:=[Bc 7 .eql 5 4,Mv 6 7]
def afl:LO:=[Mc 2 (.int .i64 1),Mc 3 (.int .i64 7),Mc 4 (.bool true)]
def afk:LO:=[Bc 9 .eql 5 5,Mv 8 9]
def afj:LO:=[Mc 2 (.int .i64 0),Mc 3 (.int .i64 4294967295),Mc 4 (.bool true)]
def afi:LO:=[Bc 11 .eql 5 6,Mv 10 11]
def afh:LO:=[Mc 2 (.int .i64 0),Mc 3 (.int .i64 16777216),Mc 4 (.bool true)]
def afg:LO:=[Bc 13 .eql 5 8,Mv 12 13]
def aff:LO:=[Mc 2 (.int .i64 0),Mc 3 (.int .i64 2000),Mc 4 (.bool true)]
def Td:LO:=[Mc 2 (.int .i64 0),Mc 3 (.int .i64 0),Mc 4 (.bool false)]
def f619 : AFunc := ⟨14, 1, false, [.t 2, .t 3, .t 4], (Sr afo (Sq (Sr afn (Bk 0 (Sr afm (Cn 6 (Rr afl) (Sr afk (Cn 8 (Rr afj) (Sr afi (Cn 10 (Rr afh) (Sr afg (Ci 12 (Rr aff))))))))))) (Rr Td)))⟩
def afe:LO:=[Op 2 (.box (.t 0)),Op 4 (.alloc (.agg zz2)),Mc 5 (.bool false)]
def afd:LO:=[Fa 8 0 2,Ld 9 8,Ln 10 0 9,Mc 11 (.int .i64 0)]
def afc:LO:=[Bi 12 .lss 11 10]
def afb:LO:=[Ia 13 2 9 11,Ls 14 2 13,Op 7 (.alloc (.agg zz2)),St 2 7 14]
def afa:LO:=[Fa 15 0 7,Ld 16 15,Mv 17 1,Bi 18 .eql 16 17]
def ae9:LO:=[Ls 19 2 7,St 2 4 19,Mc 5 (.bool true)]
def ae8:LO:=[Bc 20 .add 11 1,Mv 11 20]
def EN:ACode:=(Sr afc (Sq (Cx 12 0) (Sq (Bk 1 (Sr afb (Sr afa (Ci 18 (Rr ae9))))) (Rg ae8))))
def MB:LO:=[Op 21 (.build zz2 [] []),St 2 4 21,Mc 5 (.bool false)]
def f620 : AFunc := ⟨22, 2, false, [.cell 4 (some 2), .t 5], (Sr afe (Sq (Sr afd (Bl 0 EN)) (Rr MB)))⟩
def Qh:LI:=[.inLoop EN, .inBlock 0, .code (Rr MB)]
def ae7:LO:=[Op 2 (.box (.t 0)),Op 4 (.alloc (.agg zz2)),Mc 5 (.bool false)]
def ae6:LO:=[Fa 8 1 2,Ld 9 8,Ln 10 0 9,Mc 11 (.int .i64 0)]
def ae5:LO:=[Bi 12 .lss 11 10]
def ae4:LO:=[Ia 13 2 9 11,Ls 14 2 13,Op 7 (.alloc (.agg zz2)),St 2 7 14]
def ae3:LO:=[Fa 15 0 7,Ld 16 15,Mv 17 1,Bi 18 .eql 16 17]
def ae2:LO:=[Ls 19 2 7,St 2 4 19,Mc 5 (.bool true)]
def ae1:LO:=[Bc 20 .add 11 1,Mv 11 20]
def EK:ACode:=(Sr ae5 (Sq (Cx 12 0) (Sq (Bk 1 (Sr ae4 (Sr ae3 (Ci 18 (Rr ae2))))) (Rg ae1))))
def MA:LO:=[Op 21 (.build zz2 [] []),St 2 4 21,Mc 5 (.bool false)]
def f621 : AFunc := ⟨22, 2, false, [.cell 4 (some 2), .t 5], (Sr ae7 (Sq (Sr ae6 (Bl 0 EK)) (Rr MA)))⟩
def Qg:LI:=[.inLoop EK, .inBlock 0, .code (Rr MA)]
def ae0:LO:=[Op 2 (.box (.t 0)),Op 4 (.alloc (.agg zz2)),Mc 5 (.bool false)]
def aeZ:LO:=[Fa 8 2 2,Ld 9 8,Ln 10 0 9,Mc 11 (.int .i64 0)]
def aeY:LO:=[Bi 12 .lss 11 10]
def aeX:LO:=[Ia 13 2 9 11,Ls 14 2 13,Op 7 (.alloc (.agg zz2)),St 2 7 14]
def aeW:LO:=[Fa 15 0 7,Ld 16 15,Mv 17 1,Bi 18 .eql 16 17]
def aeV:LO:=[Ls 19 2 7,St 2 4 19,Mc 5 (.bool true)]
def aeU:LO:=[Bc 20 .add 11 1,Mv 11 20]
def EF:ACode:=(Sr aeY (Sq (Cx 12 0) (Sq (Bk 1 (Sr aeX (Sr aeW (Ci 18 (Rr aeV))))) (Rg aeU))))
def Mz:LO:=[Op 21 (.build zz2 [] []),St 2 4 21,Mc 5 (.bool false)]
def f622 : AFunc := ⟨22, 2, false, [.cell 4 (some 2), .t 5], (Sr ae0 (Sq (Sr aeZ (Bl 0 EF)) (Rr Mz)))⟩
def Qf:LI:=[.inLoop EF, .inBlock 0, .code (Rr Mz)]
def arZ:LO:=[Op 4 (.alloc (.agg zz5))]
def arY:LO:=[Mv 5 0,Mv 6 1,Ct 7 181 [5, 6],Mv 8 1,Op 9 (.build zz5 [(0, 1), (1, 1)] [(.t 7), (.t 8)]),St 2 4 9]
def f245 : AFunc := ⟨10, 2, false, [.cell 4 (some 2)], (Sr arZ (Rr arY))⟩
def asB:LO:=[Mc 4 (.int .i64 0)]
def asA:LO:=[Mv 5 0,Op 6 (.minmax true [(.t 5), (.c (.int .i64 0))]),Mv 7 1,Op 8 (.minmax false [(.t 6), (.t 7)]),Mv 4 8]
def f186 : AFunc := ⟨9, 2, false, [.t 4], (Sr asB (Rr asA))⟩
def aeT:LO:=[Op 4 (.alloc (.agg zz0)),Mc 5 (.bool false)]
def aeS:LO:=[Mc 6 (.con (.slice none 0 0))]
def aeR:LO:=[Mv 10 0,Mv 11 1,Ct 12 651 [10, 11],Mv 9 12,Ex 13 9 0,Ex 14 9 1,Op 7 (.alloc (.agg zz0)),St 4 7 13,Mv 8 14]
def aeQ:LO:=[Mv 15 8,Un 16 .not 15]
def aeP:LO:=[Op 17 (.build zz0 [] []),St 4 4 17,Mc 5 (.bool false)]
def aeO:LO:=[Mv 18 6,Ls 19 4 7,Op 20 (.bsl 4 zz0 1 [0] [(.t 19)]),Ap 21 4 48 18 20,Mv 6 21]
def aeN:LO:=[Mv 22 0,Ca 23 642 [(.t 22), (.c (.int .u8 32))],Un 24 .not 23]
def Ey:ACode:=(Bk 1 (Sr aeR (Sq (Sr aeQ (Ci 16 (Rr aeP))) (Sr aeO (Sr aeN (Cn 24 (Xt 0) Sk))))))
def Mw:LO:=[Mv 25 6,Ln 26 0 25,Bc 27 .eql 26 1]
def Mu:LO:=[Mv 28 6,Op 29 (.iadr 4 (.t 28) (.c (.int .i64 0))),Ls 30 4 29,St 4 4 30,Mc 5 (.bool true)]
def EC:LO:=[Mv 31 6,Op 32 (.build zz0 [(0, 1), (3, 1)] [(.c (.int .i64 3)), (.t 31)]),St 4 4 32,Mc 5 (.bool true)]
def f641 : AFunc := ⟨33, 2, false, [.cell 4 (some 4), .t 5], (Sr aeT (Sr aeS (Sq (Bl 0 Ey) (Sq (Sr Mw (Ci 27 (Rr Mu))) (Rr EC)))))⟩
def Qe:LI:=[.inLoop Ey, .inBlock 0, .code (Sq (Sr Mw (Ci 27 (Rr Mu))) (Rr EC))]
def aeM:LO:=[Mc 4 (.bool false)]
def aeL:LO:=[Mv 5 0,Nc 6 5,Fa 7 1 6,Ld 8 7,Mv 9 0,Nc 10 9,Fa 11 0 10,Ld 12 11,Af [7] (Ln 13 1 12),Bi 14 .lss 8 13,Mv 15 14,Gt 15 (Mv 16 0),Gt 15 (Nc 17 16),Gt 15 (Fa 18 0 17),Af [3, 8, 7] (Gt 15 (Ld 19 18)),Gt 15 (Mv 20 0),Gt 15 (Nc 21 20),Gt 15 (Fa 22 1 21),Af [3, 8, 7] (Gt 15 (Ld 23 22)),Gt 15 (Op 24 (.istr (.t 19) (.t 23))),Gt 15 (Mv 25 1),Gt 15 (Bi 26 .eql 24 25),Pa 27 15 26]
def aeK:LO:=[Mv 28 0,Nc 29 28,Fa 30 1 29,Ld 31 30,Bc 32 .add 31 1,Nc 33 28,Fa 34 1 33,St 1 34 32]
def aeJ:LO:=[Mc 4 (.bool true)]
def aeI:LO:=[Mc 4 (.bool false)]
def f642 : AFunc := ⟨35, 2, false, [.t 4], (Sr aeM (Sq (Sq (Rd aeL) (Cn 27 (Sr aeK (Rr aeJ)) Sk)) (Rr aeI)))⟩
def aeH:LO:=[Op 3 (.box (.t 0)),Mc 6 (.int .i64 0),Mc 7 (.int .i64 0)]
def aeG:LO:=[Mv 13 1,Bc 14 .gtr 13 16]
def aeF:LO:=[Mv 15 2,Mv 6 15,Mc 7 (.int .i64 24)]
def aeE:LO:=[Mv 16 2,Bc 17 .geq 16 64]
def aeD:LO:=[Mv 18 2,Mv 6 18,Mc 7 (.int .i64 4)]
def aeC:LO:=[Ls 19 4 3,Ct 20 652 [19],Mv 8 20]
def aeB:LO:=[Mv 21 8,Bc 22 .neq 21 0]
def aeA:LO:=[Mv 23 2,Mv 24 8,Mv 6 23,Mv 7 24]
def aez:LO:=[Mv 25 2,Bc 26 .add 25 1,Mv 2 26]
def aey:LO:=[Fa 27 3 3,Ld 28 27,Ln 29 0 28,Mc 30 (.int .i64 0)]
def Tc:LO:=[Bi 31 .lss 30 29]
def Ta:LO:=[Ia 32 4 28 30,Ls 33 4 32,Op 10 (.alloc (.agg zz0)),St 4 10 33]
def S9:LO:=[Ls 35 4 10,Mv 36 1,Bc 37 .add 36 1,Mv 38 2,Ct 39 643 [35, 37, 38],Mv 34 39,Ex 40 34 0,Ex 41 34 1,Mv 11 40,Mv 12 41]
def S8:LO:=[Mv 42 12,Bc 43 .neq 42 0]
def S7:LO:=[Mv 44 11,Mv 45 12,Mv 6 44,Mv 7 45]
def S6:LO:=[Mv 46 11,Mv 2 46]
def S5:LO:=[Bc 47 .add 30 1,Mv 30 47]
def zx:ACode:=(Sr Tc (Sq (Cx 31 0) (Sq (Bk 1 (Sr Ta (Sr S9 (Sq (Sr S8 (Ci 43 (Rr S7))) (Rg S6))))) (Rg S5))))
def Ew:LO:=[Mv 48 2,Mv 6 48,Mc 7 (.int .i64 0)]
def f643 : AFunc := ⟨49, 3, false, [.t 6, .t 7], (Sr aeH (Sq (Sr aeG (Ci 14 (Rr aeF))) (Sq (Sr aeE (Ci 17 (Rr aeD))) (Sq (Sr aeC (Sr aeB (Ci 22 (Rr aeA)))) (Sr aez (Sq (Sr aey (Bl 0 zx)) (Rr Ew)))))))⟩
def Mt:LI:=[.inLoop zx, .inBlock 0, .code (Rr Ew)]
def aex:LO:=[Op 2 (.box (.t 0)),Op 3 (.box (.t 1)),Mc 4 (.bool false)]
def aew:LO:=[Fa 6 0 2,Ld 7 6,Bc 8 .eql 7 5,Mv 9 8,Gf 9 (Fa 10 0 2),Gf 9 (Ld 11 10),Gf 9 (Bc 12 .eql 11 6),Po 13 9 12,Mv 14 13,Gf 14 (Fa 15 0 2),Gf 14 (Ld 16 15),Gf 14 (Bc 17 .eql 16 7),Po 18 14 17,Mv 5 18]
def aev:LO:=[Fa 19 0 3,Ld 20 19]
def aeu:LO:=[Bc 22 .eql 20 3,Mv 21 22]
def aet:LO:=[Fa 23 0 2,Ld 24 23,Bc 25 .neq 24 4,Mv 4 25]
def aes:LO:=[Bc 27 .eql 20 4,Mv 26 27]
def aer:LO:=[Fa 28 3 3,Ld 29 28,Ln 30 0 29,Bc 31 .gtr 30 0,Mv 4 31]
def aeq:LO:=[Bc 33 .eql 20 5,Mv 32 33]
def aep:LO:=[Bc 34 .eql 20 6,Mv 32 34]
def aeo:LO:=[Bc 35 .eql 20 7,Mv 32 35]
def S4:LO:=[Mv 36 5,Mv 4 36]
def SW:LO:=[Mc 4 (.bool false)]
def f644 : AFunc := ⟨37, 2, false, [.t 4], (Sr aex (Sr aew (Sq (Sr aev (Bk 0 (Sr aeu (Cn 21 (Rr aet) (Sr aes (Cn 26 (Rr aer) (Sq (Sr aeq (Cn 32 Sk (Sr aep (Cn 32 Sk (Rg aeo))))) (Ci 32 (Rr S4))))))))) (Rr SW))))⟩
def ary:LO:=[Mc 2 (.str [])]
def arx:LO:=[Mv 3 0,Bc 4 .lss 3 0]
def arw:LO:=[Mv 5 0,Bc 6 .add 5 1,Un 7 .neg 6,Cv 8 .u64 7,Op 9 (.bin .add (.t 8) (.c (.int .u64 1))),Ct 10 344 [9],Op 11 (.bin .add (.c (.str [45])) (.t 10)),Mv 2 11]
def arv:LO:=[Mv 12 0,Cv 13 .u64 12,Ct 14 344 [13],Mv 2 14]
def f338 : AFunc := ⟨15, 1, false, [.t 2], (Sr ary (Sq (Sr arx (Ci 4 (Rr arw))) (Rr arv)))⟩
def aen:LO:=[Mc 4 (.str [])]
def aem:LO:=[Mc 5 (.str [])]
def ael:LO:=[Mv 8 0,Ln 9 0 8,Mc 10 (.int .i64 0)]
def aek:LO:=[Bi 11 .lss 10 9]
def aej:LO:=[Mv 12 10,Ia 13 1 8 10,Ld 14 13,Mv 6 12,Mv 7 14]
def aei:LO:=[Mv 15 6,Bc 16 .gtr 15 0]
def aeh:LO:=[Mv 17 5,Mv 18 1,Bi 19 .add 17 18,Mv 5 19]
def aeg:LO:=[Mv 20 5,Mv 21 7,Bi 22 .add 20 21,Mv 5 22]
def aef:LO:=[Bc 23 .add 10 1,Mv 10 23]
def Eo:ACode:=(Sr aek (Sq (Cx 11 0) (Sq (Bk 1 (Sr aej (Sq (Sr aei (Cn 16 (Rg aeh) Sk)) (Rg aeg)))) (Rg aef))))
def Eu:LO:=[Mv 24 5,Mv 4 24]
def f645 : AFunc := ⟨25, 2, false, [.t 4], (Sr aen (Sr aem (Sq (Sr ael (Bl 0 Eo)) (Rr Eu))))⟩
def Qd:LI:=[.inLoop Eo, .inBlock 0, .code (Rr Eu)]
def aee:LO:=[Op 4 (.alloc (.agg zz0)),Mc 5 (.bool false)]
def aed:LO:=[Mv 10 0,Mv 11 1,Ct 12 656 [10, 11],Mv 9 12,Ex 13 9 0,Ex 14 9 1,Op 6 (.alloc (.agg zz0)),St 4 6 13,Mv 7 14]
def aec:LO:=[Mc 8 (.int .i64 (-1))]
def aeb:LO:=[Mv 16 7,Un 17 .not 16,Mv 15 17]
def aea:LO:=[Ls 18 4 6,St 4 4 18,Mc 5 (.bool false)]
def ad9:LO:=[Mv 20 0,Ca 21 642 [(.t 20), (.c (.int .u8 42))],Mv 19 21]
def ad8:LO:=[Mc 8 (.int .i64 5)]
def ad7:LO:=[Mv 23 0,Ca 24 642 [(.t 23), (.c (.int .u8 43))],Mv 22 24]
def ad6:LO:=[Mc 8 (.int .i64 6)]
def ad5:LO:=[Mv 26 0,Ca 27 642 [(.t 26), (.c (.int .u8 63))],Mv 25 27]
def SV:LO:=[Mc 8 (.int .i64 7)]
def SU:LO:=[Mv 28 8,Bc 29 .lss 28 0]
def SS:LO:=[Ls 30 4 6,St 4 4 30,Mc 5 (.bool true)]
def SR:LO:=[Mv 31 8,Ls 32 4 6,Op 33 (.bsl 4 zz0 1 [0] [(.t 32)]),Op 34 (.build zz0 [(0, 1), (3, 1)] [(.t 31), (.t 33)]),St 4 4 34,Mc 5 (.bool true)]
def f651 : AFunc := ⟨35, 2, false, [.cell 4 (some 4), .t 5], (Sr aee (Sr aed (Sr aec (Sq (Bk 0 (Sr aeb (Cn 15 (Rr aea) (Sr ad9 (Cn 19 (Rg ad8) (Sr ad7 (Cn 22 (Rg ad6) (Sr ad5 (Cn 25 (Rg SV) Sk))))))))) (Sq (Sr SU (Ci 29 (Rr SS))) (Rr SR))))))⟩
def ad4:LO:=[Op 1 (.box (.t 0)),Mc 2 (.int .i64 0)]
def ad3:LO:=[Fa 4 3 1,Ld 5 4,Ln 6 0 5,Mv 3 6]
def ad2:LO:=[Fa 7 0 1,Ld 8 7]
def ad1:LO:=[Bc 10 .eql 8 1,Mv 9 10]
def ad0:LO:=[Fa 11 1 1,Ld 12 11,Bc 13 .lss 12 0,Mv 14 13,Gf 14 (Fa 15 1 1),Gf 14 (Ld 16 15),Gf 14 (Fa 17 2 1),Gf 14 (Ld 18 17),Gf 14 (Bi 19 .gtr 16 18),Po 20 14 19,Mv 21 20,Gf 21 (Fa 22 2 1),Gf 21 (Ld 23 22),Gf 21 (Bc 24 .gtr 23 4294967295),Po 25 21 24]
def adZ:LO:=[Mc 2 (.int .i64 5)]
def adY:LO:=[Mv 26 3,Bc 27 .gtr 26 0]
def adX:LO:=[Mc 2 (.int .i64 1)]
def adW:LO:=[Mc 2 (.int .i64 0)]
def adU:LO:=[Bc 29 .eql 8 0,Mv 28 29]
def SO:LO:=[Bc 30 .eql 8 2,Mv 28 30]
def SN:LO:=[Mv 31 3,Bc 32 .gtr 31 0]
def SM:LO:=[Mc 2 (.int .i64 1)]
def SK:LO:=[Bc 34 .eql 8 3,Mv 33 34]
def SJ:LO:=[Mv 35 3,Bc 36 .lss 35 2]
def SI:LO:=[Mc 2 (.int .i64 1)]
def SG:LO:=[Bc 38 .eql 8 4,Mv 37 38]
def SE:LO:=[Mv 39 3,Bc 40 .eql 39 1]
def SD:LO:=[Mc 2 (.int .i64 1)]
def SC:LO:=[Bc 42 .eql 8 5,Mv 41 42]
def Sw:LO:=[Bc 43 .eql 8 6,Mv 41 43]
def Sv:LO:=[Bc 44 .eql 8 7,Mv 41 44]
def Su:LO:=[Mv 45 3,Bc 46 .neq 45 1]
def Ss:LO:=[Mc 2 (.int .i64 1)]
def So:LO:=[Mc 2 (.int .i64 15)]
def Sn:LO:=[Fa 47 1 1,Ld 48 47,Bc 49 .neq 48 0,Mv 50 49,Gf 50 (Fa 51 2 1),Gf 50 (Ld 52 51),Gf 50 (Bc 53 .neq 52 0),Po 54 50 53]
def Sm:LO:=[Mc 2 (.int .i64 1)]
def Sj:LO:=[Mc 2 (.int .i64 0)]
def f652 : AFunc := ⟨55, 1, false, [.t 2], (Sr ad4 (Sr ad3 (Sq (Sr ad2 (Bk 0 (Sr ad1 (Cn 9 (Sq (Sr ad0 (Ci 25 (Rr adZ))) (Sq (Sr adY (Ci 27 (Rr adX))) (Rr adW))) (Sq (Sr adU (Cn 28 Sk (Rg SO))) (Cn 28 (Sr SN (Ci 32 (Rr SM))) (Sr SK (Cn 33 (Sr SJ (Ci 36 (Rr SI))) (Sr SG (Cn 37 (Sr SE (Ci 40 (Rr SD))) (Sq (Sr SC (Cn 41 Sk (Sr Sw (Cn 41 Sk (Rg Sv))))) (Cn 41 (Sr Su (Ci 46 (Rr Ss))) (Rr So))))))))))))) (Sq (Sr Sn (Ci 54 (Rr Sm))) (Rr Sj)))))⟩
def arj:LO:=[Mc 2 (.str [])]
def ari:LO:=[Mv 4 0,Op 5 (.bin .rem (.t 4) (.c (.int .u64 10))),Op 6 (.bin .add (.c (.int .u64 48)) (.t 5)),Cv 7 .u8 6,Op 8 (.bsl 1 [.int .u8 0] 1 [0] [(.t 7)]),Op 9 (.b2s (.t 8)),Mv 3 9]
def arh:LO:=[Mv 10 0,Op 11 (.bin .lss (.t 10) (.c (.int .u64 10)))]
def arf:LO:=[Mv 12 3,Mv 2 12]
def ard:LO:=[Mv 13 0,Op 14 (.bin .quo (.t 13) (.c (.int .u64 10))),Ct 15 344 [14],Mv 16 3,Bi 17 .add 15 16,Mv 2 17]
def f344 : AFunc := ⟨18, 1, false, [.t 2], (Sr arj (Sr ari (Sq (Sr arh (Ci 11 (Rr arf))) (Rr ard))))⟩
def adT:LO:=[Op 4 (.alloc (.agg zz0)),Mc 5 (.bool false)]
def adS:LO:=[Mv 16 1,Bc 17 .gtr 16 32,Mv 15 17]
def adR:LO:=[Op 18 (.build zz0 [] []),St 4 4 18,Mc 5 (.bool false)]
def adQ:LO:=[Mv 20 0,Ca 21 642 [(.t 20), (.c (.int .u8 46))],Mv 19 21]
def adP:LO:=[Op 22 (.build zz0 [(0, 1)] [(.c (.int .i64 2))]),St 4 4 22,Mc 5 (.bool true)]
def adO:LO:=[Mv 24 0,Ca 25 642 [(.t 24), (.c (.int .u8 33))],Mv 23 25]
def adN:LO:=[Op 26 (.build zz0 [(0, 1)] [(.c (.int .i64 4))]),St 4 4 26,Mc 5 (.bool true)]
def adM:LO:=[Mv 28 0,Ca 29 642 [(.t 28), (.c (.int .u8 40))],Mv 27 29]
def adL:LO:=[Mv 30 0,Ca 31 642 [(.t 30), (.c (.int .u8 41))]]
def adK:LO:=[Op 32 (.build zz0 [(0, 1)] [(.c (.int .i64 0))]),St 4 4 32,Mc 5 (.bool true)]
def Si:LO:=[Mv 34 0,Mv 35 1,Bc 36 .add 35 1,Ct 37 616 [34, 36],Mv 33 37,Ex 38 33 0,Ex 39 33 1,Op 6 (.alloc (.agg zz0)),St 4 6 38,Mv 7 39]
def Sg:LO:=[Ls 40 4 6,Mv 41 7,Mv 42 41,Gt 42 (Mv 43 0),Gt 42 (Ca 44 642 [(.t 43), (.c (.int .u8 41))]),Pa 45 42 44,Af [4, 0] (St 4 4 40),Mv 5 45]
def Se:LO:=[Mv 47 0,Ca 48 642 [(.t 47), (.c (.int .u8 91))],Mv 46 48]
def Sd:LO:=[Mv 50 0,Ct 51 661 [50],Mv 49 51,Ex 52 49 0,Ex 53 49 1,Mv 8 52,Mv 9 53]
def Sc:LO:=[Mv 54 0,Ca 55 642 [(.t 54), (.c (.int .u8 45))],Mv 10 55]
def R9:LO:=[Mv 57 0,Ct 58 661 [57],Mv 56 58,Ex 59 56 0,Ex 60 56 1,Mv 11 59,Mv 12 60]
def R8:LO:=[Mv 61 8,Mv 62 11,Op 63 (.build zz0 [(0, 1), (1, 1), (2, 1)] [(.c (.int .i64 1)), (.t 61), (.t 62)]),Mv 64 9,Mv 65 64,Gt 65 (Mv 66 10),Pa 67 65 66,Mv 68 67,Gt 68 (Mv 69 12),Pa 70 68 69,Mv 71 70,Gt 71 (Mv 72 0),Gt 71 (Ca 73 642 [(.t 72), (.c (.int .u8 93))]),Pa 74 71 73,St 4 4 63,Mv 5 74]
def R7:LO:=[Mv 76 0,Ct 77 661 [76],Mv 75 77,Ex 78 75 0,Ex 79 75 1,Mv 13 78,Mv 14 79]
def R6:LO:=[Mv 80 13,Mv 81 13,Op 82 (.build zz0 [(0, 1), (1, 1), (2, 1)] [(.c (.int .i64 1)), (.t 80), (.t 81)]),Mv 83 14,St 4 4 82,Mv 5 83]
def f656 : AFunc := ⟨84, 2, false, [.cell 4 (some 4), .t 5], (Sr adT (Sq (Bk 0 (Sr adS (Cn 15 (Rr adR) (Sr adQ (Cn 19 (Rr adP) (Sr adO (Cn 23 (Rr adN) (Sr adM (Cn 27 (Sq (Sr adL (Ci 31 (Rr adK))) (Sr Si (Sq (Rd Sg) Rt))) (Sr Se (Cn 46 (Sr Sd (Sr Sc (Sr R9 (Rr R8)))) Sk))))))))))) (Sr R7 (Rr R6))))⟩
def adJ:LO:=[Mc 2 (.int .i64 0),Mc 3 (.bool false)]
def adI:LO:=[Mv 6 0,Nc 7 6,Fa 8 1 7,Ld 9 8,Mc 4 (.int .i64 0),Mv 5 9]
def adH:LO:=[Mv 10 0,Nc 11 10,Fa 12 1 11,Ld 13 12,Mv 14 0,Nc 15 14,Fa 16 0 15,Ld 17 16,Af [7] (Ln 18 1 17),Bi 19 .lss 13 18,Mv 20 19,Gt 20 (Mv 21 0),Gt 20 (Nc 22 21),Gt 20 (Fa 23 0 22),Af [3, 8, 7] (Gt 20 (Ld 24 23)),Gt 20 (Mv 25 0),Gt 20 (Nc 26 25),Gt 20 (Fa 27 1 26),Af [3, 8, 7] (Gt 20 (Ld 28 27)),Gt 20 (Op 29 (.istr (.t 24) (.t 28))),Gt 20 (Op 30 (.bin .geq (.t 29) (.c (.int .u8 48)))),Pa 31 20 30,Mv 32 31,
 Gt 32 (Mv 33 0),Gt 32 (Nc 34 33),Gt 32 (Fa 35 0 34),Af [14, 18, 3, 8, 7] (Gt 32 (Ld 36 35)),Gt 32 (Mv 37 0),Gt 32 (Nc 38 37),Gt 32 (Fa 39 1 38),Af [14, 18, 3, 8, 7] (Gt 32 (Ld 40 39)),Gt 32 (Op 41 (.istr (.t 36) (.t 40))),Gt 32 (Op 42 (.bin .leq (.t 41) (.c (.int .u8 57)))),Pa 43 32 42]
def adG:LO:=[Mv 44 4,Op 45 (.bin .mul (.c (.int .i64 10)) (.t 44)),Mv 46 0,Nc 47 46,Fa 48 0 47,Ld 49 48,Mv 50 0,Nc 51 50,Fa 52 1 51,Ld 53 52,Op 54 (.istr (.t 49) (.t 53)),Op 55 (.bin .sub (.t 54) (.c (.int .u8 48))),Cv 56 .i64 55,Bi 57 .add 45 56,Mv 4 57]
def adF:LO:=[Mv 58 0,Nc 59 58,Fa 60 1 59,Ld 61 60,Bc 62 .add 61 1,Nc 63 58,Fa 64 1 63,St 1 64 62]
def adE:LO:=[Mv 65 4,Bc 66 .gtr 65 4294967295]
def adC:LO:=[Mc 2 (.int .i64 0),Mc 3 (.bool false)]
def En:ACode:=(Sq (Sq (Rd adH) (Cx 43 0)) (Bk 1 (Sq (Rd adG) (Sr adF (Sr adE (Ci 66 (Rr adC)))))))
def Mr:LO:=[Mv 67 4,Mv 68 0,Nc 69 68,Fa 70 1 69,Ld 71 70,Mv 72 5,Bi 73 .gtr 71 72,Mv 2 67,Mv 3 73]
def f661 : AFunc := ⟨74, 1, false, [.t 2, .t 3], (Sr adJ (Sq (Rd adI) (Sq (Bl 0 En) (Sq (Rd Mr) Rt))))⟩
def qf:LI:=[.inLoop En, .inBlock 0, .code (Sq (Rd Mr) Rt)]
end Go.AM.IR
namespace Go.AM.IR
def G (f : Nat) : Fun := bif Nat.blt f 442 then (bif Nat.blt f 379 then (bif Nat.blt f 247 then (bif Nat.blt f 186 then (bif Nat.blt f 182 then (bif Nat.blt f 180 then (bif Nat.blt f 179 then (bif Nat.beq f 178 then .code f178 else .none) else (bif Nat.beq f 179 then .code f179 else .none)) else (bif Nat.blt f 181 then (bif Nat.beq f 180 then .code f180 else .none) else (bif Nat.beq f 181 then .code f181 else .none))) else (bif Nat.blt f 184 then (bif Nat.blt f 183 then (bif Nat.beq f 182 then .code f182 else .none) else (bif Nat.beq f 183 then .code f183 else .none)) else (bif Nat.blt f 185 then (bif Nat.beq f 184 then .code f184 else .none) else (bif Nat.beq f 185 then .code f185 else .none)))) else (bif Nat.blt f 233 then (bif Nat.blt f 229 then (bif Nat.blt f 227 then (bif Nat.beq f 186 then .code f186 else .none) else (bif Nat.beq f 227 then .code f227 else .none)) else (bif Nat.blt f 231 then (bif Nat.beq f 229 then .code f229 else .none) else (bif Nat.beq f 231 then .code f231 else .none))) else (bif Nat.blt f 245 then (bif Nat.blt f 235 then (bif Nat.beq f 233 then .code f233 else .none) else (bif Nat.beq f 235 then .code f235 else .none)) else (bif Nat.blt f 246 then (bif Nat.beq f 245 then .code f245 else .none) else (bif Nat.beq f 246 then .prim false xG else .none))))) else (bif Nat.blt f 339 then (bif Nat.blt f 263 then (bif Nat.blt f 250 then (bif Nat.blt f 249 then (bif Nat.beq f 247 then .prim false xF else .none) else (bif Nat.beq f 249 then .prim false rH else .none)) else (bif Nat.blt f 252 then (bif Nat.beq f 250 then .code f250 else .none) else (bif Nat.beq f 252 then .prim false KD else .none))) else (bif Nat.blt f 337 then (bif Nat.blt f 326 then (bif Nat.beq f 263 then .prim false (xH 337) else .none) else (bif Nat.beq f 326 then .code f326 else .none)) else (bif Nat.blt f 338 then (bif Nat.beq f 337 then .code f337 else .none) else (bif Nat.beq f 338 then .code f338 else .none)))) else (bif Nat.blt f 347 then (bif Nat.blt f 345 then (bif Nat.blt f 344 then (bif Nat.beq f 339 then .code f339 else .none) else (bif Nat.beq f 344 then .code f344 else .none)) else (bif Nat.blt f 346 then (bif Nat.beq f 345 then .prim false j9 else .none) else (bif Nat.beq f 346 then .code f346 else .none))) else (bif Nat.blt f 375 then (bif Nat.blt f 374 then (bif Nat.beq f 347 then .code f347 else .none) else (bif Nat.beq f 374 then .code f374 else .none)) else (bif Nat.blt f 377 then (bif Nat.beq f 375 then .code f375 else .none) else (bif Nat.blt f 378 then (bif Nat.beq f 377 then .code f377 else .none) else (bif Nat.beq f 378 then .code f378 else .none))))))) else (bif Nat.blt f 403 then (bif Nat.blt f 395 then (bif Nat.blt f 386 then (bif Nat.blt f 381 then (bif Nat.blt f 380 then (bif Nat.beq f 379 then .code f379 else .none) else (bif Nat.beq f 380 then .code f380 else .none)) else (bif Nat.blt f 383 then (bif Nat.beq f 381 then .code f381 else .none) else (bif Nat.beq f 383 then .code f383 else .none))) else (bif Nat.blt f 389 then (bif Nat.blt f 387 then (bif Nat.beq f 386 then .code f386 else .none) else (bif Nat.beq f 387 then .code f387 else .none)) else (bif Nat.blt f 390 then (bif Nat.beq f 389 then .code f389 else .none) else (bif Nat.beq f 390 then .code f390 else .none)))) else (bif Nat.blt f 399 then (bif Nat.blt f 397 then (bif Nat.blt f 396 then (bif Nat.beq f 395 then .code f395 else .none) else (bif Nat.beq f 396 then .code f396 else .none)) else (bif Nat.blt f 398 then (bif Nat.beq f 397 then .code f397 else .none) else (bif Nat.beq f 398 then .code f398 else .none))) else (bif Nat.blt f 401 then (bif Nat.blt f 400 then (bif Nat.beq f 399 then .code f399 else .none) else (bif Nat.beq f 400 then .code f400 else .none)) else (bif Nat.blt f 402 then (bif Nat.beq f 401 then .code f401 else .none) else (bif Nat.beq f 402 then .code f402 else .none))))) else (bif Nat.blt f 426 then (bif Nat.blt f 416 then (bif Nat.blt f 406 then (bif Nat.blt f 405 then (bif Nat.beq f 403 then .code f403 else .none) else (bif Nat.beq f 405 then .code f405 else .none)) else (bif Nat.blt f 408 then (bif Nat.beq f 406 then .code f406 else .none) else (bif Nat.beq f 408 then .code f408 else .none))) else (bif Nat.blt f 419 then (bif Nat.blt f 417 then (bif Nat.beq f 416 then .code f416 else .none) else (bif Nat.beq f 417 then .code f417 else .none)) else (bif Nat.blt f 425 then (bif Nat.beq f 419 then .code f419 else .none) else (bif Nat.beq f 425 then .code f425 else .none)))) else (bif Nat.blt f 437 then (bif Nat.blt f 435 then (bif Nat.blt f 429 then (bif Nat.beq f 426 then .code f426 else .none) else (bif Nat.beq f 429 then .code f429 else .none)) else (bif Nat.blt f 436 then (bif Nat.beq f 435 then .code f435 else .none) else (bif Nat.beq f 436 then .code f436 else .none))) else (bif Nat.blt f 439 then (bif Nat.blt f 438 then (bif Nat.beq f 437 then .code f437 else .none) else (bif Nat.beq f 438 then .code f438 else .none)) else (bif Nat.blt f 440 then (bif Nat.beq f 439 then .code f439 else .none) else (bif Nat.blt f 441 then (bif Nat.beq f 440 then .code f440 else .none) else (bif Nat.beq f 441 then .code f441 else .none)))))))) else (bif Nat.blt f 533 then (bif Nat.blt f 495 then (bif Nat.blt f 460 then (bif Nat.blt f 446 then (bif Nat.blt f 444 then (bif Nat.blt f 443 then (bif Nat.beq f 442 then .code f442 else .none) else (bif Nat.beq f 443 then .code f443 else .none)) else (bif Nat.blt f 445 then (bif Nat.beq f 444 then .code f444 else .none) else (bif Nat.beq f 445 then .code f445 else .none))) else (bif Nat.blt f 448 then (bif Nat.blt f 447 then (bif Nat.beq f 446 then .code f446 else .none) else (bif Nat.beq f 447 then .code f447 else .none)) else (bif Nat.blt f 451 then (bif Nat.beq f 448 then .code f448 else .none) else (bif Nat.beq f 451 then .code f451 else .none)))) else (bif Nat.blt f 465 then (bif Nat.blt f 462 then (bif Nat.blt f 461 then (bif Nat.beq f 460 then .code f460 else .none) else (bif Nat.beq f 461 then .code f461 else .none)) else (bif Nat.blt f 463 then (bif Nat.beq f 462 then .code f462 else .none) else (bif Nat.beq f 463 then .code f463 else .none))) else (bif Nat.blt f 493 then (bif Nat.blt f 490 then (bif Nat.beq f 465 then .code f465 else .none) else (bif Nat.beq f 490 then .code f490 else .none)) else (bif Nat.blt f 494 then (bif Nat.beq f 493 then .code f493 else .none) else (bif Nat.beq f 494 then .code f494 else .none))))) else (bif Nat.blt f 503 then (bif Nat.blt f 499 then (bif Nat.blt f 497 then (bif Nat.blt f 496 then (bif Nat.beq f 495 then .code f495 else .none) else (bif Nat.beq f 496 then .code f496 else .none)) else (bif Nat.blt f 498 then (bif Nat.beq f 497 then .code f497 else .none) else (bif Nat.beq f 498 then .code f498 else .none))) else (bif Nat.blt f 501 then (bif Nat.blt f 500 then (bif Nat.beq f 499 then .code f499 else .none) else (bif Nat.beq f 500 then .code f500 else .none)) else (bif Nat.blt f 502 then (bif Nat.beq f 501 then .code f501 else .none) else (bif Nat.beq f 502 then .code f502 else .none)))) else (bif Nat.blt f 507 then (bif Nat.blt f 505 then (bif Nat.blt f 504 then (bif Nat.beq f 503 then .code f503 else .none) else (bif Nat.beq f 504 then .code f504 else .none)) else (bif Nat.blt f 506 then (bif Nat.beq f 505 then .code f505 else .none) else (bif Nat.beq f 506 then .code f506 else .none))) else (bif Nat.blt f 530 then (bif Nat.blt f 508 then (bif Nat.beq f 507 then .code f507 else .none) else (bif Nat.beq f 508 then .code f508 else .none)) else (bif Nat.blt f 531 then (bif Nat.beq f 530 then .code f530 else .none) else (bif Nat.blt f 532 then (bif Nat.beq f 531 then .code f531 else .none) else (bif Nat.beq f 532 then .code f532 else .none))))))) else (bif Nat.blt f 612 then (bif Nat.blt f 569 then (bif Nat.blt f 538 then (bif Nat.blt f 535 then (bif Nat.blt f 534 then (bif Nat.beq f 533 then .code f533 else .none) else (bif Nat.beq f 534 then .code f534 else .none)) else (bif Nat.blt f 537 then (bif Nat.beq f 535 then .code f535 else .none) else (bif Nat.beq f 537 then .code f537 else .none))) else (bif Nat.blt f 567 then (bif Nat.blt f 561 then (bif Nat.beq f 538 then .code f538 else .none) else (bif Nat.beq f 561 then .code f561 else .none)) else (bif Nat.blt f 568 then (bif Nat.beq f 567 then .code f567 else .none) else (bif Nat.beq f 568 then .code f568 else .none)))) else (bif Nat.blt f 573 then (bif Nat.blt f 571 then (bif Nat.blt f 570 then (bif Nat.beq f 569 then .code f569 else .none) else (bif Nat.beq f 570 then .code f570 else .none)) else (bif Nat.blt f 572 then (bif Nat.beq f 571 then .code f571 else .none) else (bif Nat.beq f 572 then .code f572 else .none))) else (bif Nat.blt f 575 then (bif Nat.blt f 574 then (bif Nat.beq f 573 then .code f573 else .none) else (bif Nat.beq f 574 then .code f574 else .none)) else (bif Nat.blt f 576 then (bif Nat.beq f 575 then .code f575 else .none) else (bif Nat.beq f 576 then .code f576 else .none))))) else (bif Nat.blt f 641 then (bif Nat.blt f 619 then (bif Nat.blt f 617 then (bif Nat.blt f 616 then (bif Nat.beq f 612 then .code f612 else .none) else (bif Nat.beq f 616 then .code f616 else .none)) else (bif Nat.blt f 618 then (bif Nat.beq f 617 then .code f617 else .none) else (bif Nat.beq f 618 then .code f618 else .none))) else (bif Nat.blt f 621 then (bif Nat.blt f 620 then (bif Nat.beq f 619 then .code f619 else .none) else (bif Nat.beq f 620 then .code f620 else .none)) else (bif Nat.blt f 622 then (bif Nat.beq f 621 then .code f621 else .none) else (bif Nat.beq f 622 then .code f622 else .none)))) else (bif Nat.blt f 645 then (bif Nat.blt f 643 then (bif Nat.blt f 642 then (bif Nat.beq f 641 then .code f641 else .none) else (bif Nat.beq f 642 then .code f642 else .none)) else (bif Nat.blt f 644 then (bif Nat.beq f 643 then .code f643 else .none) else (bif Nat.beq f 644 then .code f644 else .none))) else (bif Nat.blt f 652 then (bif Nat.blt f 651 then (bif Nat.beq f 645 then .code f645 else .none) else (bif Nat.beq f 651 then .code f651 else .none)) else (bif Nat.blt f 656 then (bif Nat.beq f 652 then .code f652 else .none) else (bif Nat.blt f 661 then (bif Nat.beq f 656 then .code f656 else .none) else (bif Nat.beq f 661 then .code f661 else .none))))))))
end Go.AM.IR
namespace Go.AM.IR
end Go.AM.IR
namespace Go.AM.IR
theorem dq : ax G 378 [] [] ⟨.bool true, []⟩ := Mq 100000000 rfl rfl (by kernel_rfl)
end Go.AM.IR
namespace Go.AM.IR
def gj (x : Int) : List AV := [.int .i64 x]
def cu (x : Int) : List AV := [.int .u32 x]
structure Seg where
 kind : Int
 as : List Int
def Seg.enc (s : Seg) : List AV := [.int .i64 s.kind, .sl 1 (s.as.map gj)]
structure TLV where
 kind : Int
 value : List UInt8
def TLV.enc (s : TLV) : List AV := [.int .i64 s.kind, .sl 1 (byteCells s.value)]
structure Attrs where
 origin : Int
 path : List Seg
 nextHop : Int
 hasMED : Bool
 med : Int
 hasPref : Bool
 pref : Int
 atomic : Bool
 hasAggr : Bool
 aggrAS : Int
 aggrAddr : Int
 comms : List Int
 hasOrig : Bool
 orig : Int
 clusters : List Int
 unknown : List TLV
def Attrs.enc (a : Attrs) : List AV := [.int .i64 a.origin, .sl 2 (a.path.map Seg.enc), .int .u32 a.nextHop, .bool a.hasMED, .int .i64 a.med, .bool a.hasPref, .int .i64 a.pref, .bool a.atomic, .bool a.hasAggr, .int .i64 a.aggrAS, .int .u32 a.aggrAddr,
 .sl 1 (a.comms.map cu), .bool a.hasOrig, .int .u32 a.orig, .sl 1 (a.clusters.map cu), .sl 2 (a.unknown.map TLV.enc)]
structure PVRoute where
 paddr : Int
 plen : Int
 attrs : Attrs
 peer : Int
 kind : Int
 router : Int
 stale : Bool
def PVRoute.enc (r : PVRoute) : List AV := [.int .u32 r.paddr, .int .i64 r.plen,
 .int .i64 r.attrs.origin, .sl 2 (r.attrs.path.map Seg.enc), .int .u32 r.attrs.nextHop, .bool r.attrs.hasMED, .int .i64 r.attrs.med, .bool r.attrs.hasPref, .int .i64 r.attrs.pref, .bool r.attrs.atomic, .bool r.attrs.hasAggr, .int .i64 r.attrs.aggrAS, .int .u32 r.attrs.aggrAddr,
 .sl 1 (r.attrs.comms.map cu), .bool r.attrs.hasOrig, .int .u32 r.attrs.orig, .sl 1 (r.attrs.clusters.map cu), .sl 2 (r.attrs.unknown.map TLV.enc),
 .int .i64 r.peer, .int .i64 r.kind, .int .u32 r.router, .bool r.stale]
structure IGP where
 addr : Int
 cost : Int
def IGP.enc (c : IGP) : List AV := [.int .u32 c.addr, .int .i64 c.cost]
theorem cr {α : Type} {f : α → List AV} (h : ∀ x, aH (f x) = true) : ∀ l : List α, aG (l.map f) = true
 | [] => rfl
 | x :: r => by simp only [List.map_cons, aG, h x, cr h r, Bool.and_self]
theorem jE : ∀ l : List UInt8, aG (byteCells l) = true := fun l => cr (f := fun b : UInt8 => [AV.int .u8 (b.toNat : Int)]) (fun _ => rfl) l
@[simp] theorem aur (l : List Int) : aG (l.map gj) = true := cr (fun _ => rfl) l
@[simp] theorem auq (l : List Int) : aG (l.map cu) = true := cr (fun _ => rfl) l
theorem Seg.pure (s : Seg) : aH s.enc = true := by simp [Seg.enc, aH, AV.pure]
@[simp] theorem aun (l : List Seg) : aG (l.map Seg.enc) = true := cr Seg.pure l
theorem TLV.pure (s : TLV) : aH s.enc = true := by simp [TLV.enc, aH, AV.pure, jE]
@[simp] theorem aum (l : List TLV) : aG (l.map TLV.enc) = true := cr TLV.pure l
@[simp] theorem Attrs.pure (s : Attrs) : aH s.enc = true := by simp [Attrs.enc, aH, AV.pure]
@[simp] theorem PVRoute.pure (s : PVRoute) : aH s.enc = true := by simp [PVRoute.enc, aH, AV.pure]
@[simp] theorem atE (l : List PVRoute) : aG (l.map PVRoute.enc) = true := cr PVRoute.pure l
@[simp] theorem aup (l : List IGP) : aG (l.map IGP.enc) = true := cr (fun _ => rfl) l
end Go.AM.IR
namespace Go.AM.IR
theorem zb {α : Type} {e : List AV → Prop} {enc : α → List AV} {Q : α → Prop} (h : ∀ x, e x → ∃ a, x = enc a ∧ Q a) : ∀ es : List (List AV), (∀ x ∈ es, e x) → ∃ l : List α, es = l.map enc ∧ ∀ a ∈ l, Q a
 | [], _ => ⟨[], rfl, by simp⟩
 | x :: r, hx => by
  obtain ⟨a, rfl, ha⟩ := h x (hx x (by simp))
  obtain ⟨l, rfl, hl⟩ := zb h r fun y hy => hx y (by simp [hy])
  exact ⟨a :: l, rfl, by simpa using ⟨ha, hl⟩⟩
def okI (x : Int) : Prop := -9223372036854775808 ≤ x ∧ x ≤ 9223372036854775807
def okU (x : Int) : Prop := 0 ≤ x ∧ x ≤ 4294967295
theorem bz {as : List AV} (h : Ty.T (.int .i64) as) : ∃ x, as = gj x ∧ okI x := by
 obtain ⟨n, rfl, h1, h2⟩ := h
 exact ⟨n, rfl, by simpa [IntKind.min, IntKind.max, IntKind.signed, IntKind.bits, okI] using And.intro h1 h2⟩
theorem f6 {as : List AV} (h : Ty.T (.int .u32) as) : ∃ x, as = cu x ∧ okU x := by
 obtain ⟨n, rfl, h1, h2⟩ := h
 exact ⟨n, rfl, by simpa [IntKind.min, IntKind.max, IntKind.signed, IntKind.bits, okU] using And.intro h1 h2⟩
theorem ef {α : Type} {τ : Ty} {enc : α → List AV} {Q : α → Prop} (h : ∀ x, τ.T x → ∃ a, x = enc a ∧ Q a) {as : List AV} (hs : Ty.T (.sl τ) as) : ∃ l : List α, as = [.sl τ.cells (l.map enc)] ∧ ∀ a ∈ l, Q a := by
 obtain ⟨es, rfl, h1, _⟩ := hs
 obtain ⟨l, rfl, h2⟩ := zb h es h1
 exact ⟨l, rfl, h2⟩
structure Seg.ok (s : Seg) : Prop where
 kind : okI s.kind
 as : ∀ x ∈ s.as, okI x
structure TLV.ok (s : TLV) : Prop where
 kind : okI s.kind
structure IGP.ok (s : IGP) : Prop where
 addr : okU s.addr
 cost : okI s.cost
structure Attrs.ok (a : Attrs) : Prop where
 origin : okI a.origin
 path : ∀ s ∈ a.path, s.ok
 nextHop : okU a.nextHop
 med : okI a.med
 pref : okI a.pref
 aggrAS : okI a.aggrAS
 aggrAddr : okU a.aggrAddr
 comms : ∀ x ∈ a.comms, okU x
 orig : okU a.orig
 clusters : ∀ x ∈ a.clusters, okU x
 unknown : ∀ x ∈ a.unknown, x.ok
structure PVRoute.ok (r : PVRoute) : Prop where
 paddr : okU r.paddr
 plen : okI r.plen
 attrs : r.attrs.ok
 peer : okI r.peer
 kind : okI r.kind
 router : okU r.router
end Go.AM.IR
namespace Go.AM.IR
structure Pfx where
 addr : Int
 len : Int
 deriving DecidableEq
def Pfx.enc (p : Pfx) : List AV := [.int .u32 p.addr, .int .i64 p.len]
structure Cap where
 code : Int
 value : List UInt8
 deriving DecidableEq
def Cap.enc (p : Cap) : List AV := [.int .i64 p.code, .sl 1 (byteCells p.value)]
structure PMsg where
 kind : Int
 version : Int
 as : Int
 hold : Int
 router : Int
 caps : List Cap
 withdrawn : List Pfx
 attrs : Attrs
 reach : List Pfx
 code : Int
 sub : Int
 data : List UInt8
def PMsg.enc (m : PMsg) : List AV := [.int .i64 m.kind, .int .i64 m.version, .int .i64 m.as, .int .i64 m.hold, .int .u32 m.router, .sl 2 (m.caps.map Cap.enc), .sl 2 (m.withdrawn.map Pfx.enc),
 .int .i64 m.attrs.origin, .sl 2 (m.attrs.path.map Seg.enc), .int .u32 m.attrs.nextHop, .bool m.attrs.hasMED, .int .i64 m.attrs.med, .bool m.attrs.hasPref, .int .i64 m.attrs.pref, .bool m.attrs.atomic, .bool m.attrs.hasAggr, .int .i64 m.attrs.aggrAS, .int .u32 m.attrs.aggrAddr,
 .sl 1 (m.attrs.comms.map cu), .bool m.attrs.hasOrig, .int .u32 m.attrs.orig, .sl 1 (m.attrs.clusters.map cu), .sl 2 (m.attrs.unknown.map TLV.enc),
 .sl 2 (m.reach.map Pfx.enc), .int .i64 m.code, .int .i64 m.sub, .sl 1 (byteCells m.data)]
structure Peer where
 kind : Int
 as : Int
 addr : Int
 loc : Int
 client : Bool
 hold : Int
 restart : Int
 imp : List UInt8
 exp : List UInt8
 nextSelf : Bool
 damp : Bool
def Peer.enc (p : Peer) : List AV := [.int .i64 p.kind, .int .i64 p.as, .int .u32 p.addr, .int .u32 p.loc, .bool p.client, .int .i64 p.hold, .int .i64 p.restart, .str p.imp, .str p.exp, .bool p.nextSelf, .bool p.damp]
structure Conf where
 as : Int
 confed : Int
 router : Int
 cluster : Int
 peers : List Peer
 nets : AV
 p1 : AV
 p2 : AV
 p3 : AV
 p4 : AV
 d1 : Int
 d2 : Int
 d3 : Int
 d4 : Int
 multi : Int
def Conf.enc (c : Conf) : List AV := [.int .i64 c.as, .int .i64 c.confed, .int .u32 c.router, .int .u32 c.cluster, .sl 11 (c.peers.map Peer.enc), c.nets, c.p1, c.p2, c.p3, c.p4, .int .i64 c.d1, .int .i64 c.d2, .int .i64 c.d3, .int .i64 c.d4, .int .i64 c.multi]
structure Ses where
 state : Int
 retry : Int
 hold : Int
 keep : Int
 holdTime : Int
 router : Int
 restart : Int
 refresh : Bool
 untl : Int
def Ses.enc (s : Ses) : List AV := [.int .i64 s.state, .int .i64 s.retry, .int .i64 s.hold, .int .i64 s.keep, .int .i64 s.holdTime, .int .u32 s.router, .int .i64 s.restart, .bool s.refresh, .int .i64 s.untl]
structure Act where
 kind : Int
 msg : PMsg
def Act.enc (a : Act) : List AV := .int .i64 a.kind :: a.msg.enc
theorem Pfx.pure (s : Pfx) : aH s.enc = true := rfl
@[simp] theorem auo (l : List Pfx) : aG (l.map Pfx.enc) = true := cr Pfx.pure l
theorem Cap.pure (s : Cap) : aH s.enc = true := by simp [Cap.enc, aH, AV.pure, jE]
@[simp] theorem aus (l : List Cap) : aG (l.map Cap.enc) = true := cr Cap.pure l
@[simp] theorem PMsg.pure (s : PMsg) : aH s.enc = true := by simp [PMsg.enc, aH, AV.pure, jE]
theorem Peer.pure (s : Peer) : aH s.enc = true := rfl
@[simp] theorem atL (l : List Peer) : aG (l.map Peer.enc) = true := cr Peer.pure l
@[simp] theorem Ses.pure (s : Ses) : aH s.enc = true := rfl
@[simp] theorem Act.pure (s : Act) : aH s.enc = true := by simp [Act.enc, aH, AV.pure]
@[simp] theorem aut (l : List Act) : aG (l.map Act.enc) = true := cr Act.pure l
structure Conf.ok (c : Conf) : Prop where
 nets : c.nets.pure = true
 p1 : c.p1.pure = true
 p2 : c.p2.pure = true
 p3 : c.p3.pure = true
 p4 : c.p4.pure = true
 as : okI c.as
 confed : okI c.confed
 router : okU c.router
 peers : ∀ p ∈ c.peers, okI p.as ∧ okI p.hold ∧ okI p.restart ∧ okI p.kind
 len : c.peers.length ≤ maxLen
theorem Conf.pure {c : Conf} (h : c.ok) : aH c.enc = true := by simp [Conf.enc, aH, AV.pure, h.nets, h.p1, h.p2, h.p3, h.p4]
def mU : Ty := .st [.int .u32, .int .i64]
structure Pfx.ok (p : Pfx) : Prop where
 addr : okU p.addr
 len : okI p.len
theorem oU {as : List AV} (h : mU.T as) : ∃ s : Pfx, as = s.enc ∧ s.ok := by
 simp only [mU, Ty.T.eq_5, TT] at h
 obtain ⟨a1, b1, rfl, h1, a2, b2, rfl, h2, rfl⟩ := h
 obtain ⟨x1, rfl, k1⟩ := f6 h1
 obtain ⟨x2, rfl, k2⟩ := bz h2
 exact ⟨⟨x1, x2⟩, rfl, k1, k2⟩
structure PMsg.ok (m : PMsg) : Prop where
 kind : okI m.kind
 version : okI m.version
 as : okI m.as
 hold : okI m.hold
 router : okU m.router
 caps : ∀ c ∈ m.caps, okI c.code
 withdrawn : ∀ p ∈ m.withdrawn, p.ok
 attrs : m.attrs.ok
 reach : ∀ p ∈ m.reach, p.ok
 code : okI m.code
 sub : okI m.sub
theorem ic {as : List AV} (h : Ty.T .str as) : ∃ s, as = [.str s] := by
 obtain ⟨s, rfl, _⟩ := h; exact ⟨s, rfl⟩
structure Ses.ok (s : Ses) : Prop where
 state : okI s.state
 retry : okI s.retry
 hold : okI s.hold
 keep : okI s.keep
 holdTime : okI s.holdTime
 router : okU s.router
 restart : okI s.restart
 untl : okI s.untl
end Go.AM.IR
namespace Go.AM.IR
set_option maxHeartbeats 1000000
@[simp] theorem Bu (x : Pfx) : aH x.enc = true := by simp [Pfx.enc, aH, AV.pure]
@[simp] theorem O8 : ∀ l : List Int, aG (l.map gj) = true
 | [] => rfl
 | x :: r => by simp only [List.map_cons, aG, O8 r]; simp [gj, aH, AV.pure]
@[simp] theorem yu : ∀ l : List Pfx, aG (l.map Pfx.enc) = true
 | [] => rfl
 | x :: r => by simp only [List.map_cons, aG, yu r, Bu]; rfl
theorem aub {as : List AV} (h : Ty.T (.sl (.int .i64)) as) : ∃ l : List Int, as = [.sl 1 (l.map gj)] ∧ ∀ x ∈ l, okI x := ef (fun _ => bz) h
structure Ifc where
 kind : Int
 pfx : Pfx
 addr : Int
 area : Int
 cost : Int
 prio : Int
 hello : Int
 dead : Int
def Ifc.enc (r : Ifc) : List AV := [.int .i64 r.kind, .int .u32 r.pfx.addr, .int .i64 r.pfx.len, .int .u32 r.addr, .int .u32 r.area, .int .i64 r.cost, .int .i64 r.prio, .int .i64 r.hello, .int .i64 r.dead]
def Ifc.ok (r : Ifc) : Prop := okI r.kind ∧ Pfx.ok r.pfx ∧ okU r.addr ∧ okU r.area ∧ okI r.cost ∧ okI r.prio ∧ okI r.hello ∧ okI r.dead
def Kh : Ty := .st [.int .i64, mU, .int .u32, .int .u32, .int .i64, .int .i64, .int .i64, .int .i64]
theorem auj {as : List AV} (h : Kh.T as) : ∃ s : Ifc, as = s.enc ∧ s.ok := by
 simp only [Kh, Ty.T.eq_5, TT] at h
 obtain ⟨a0, b0, rfl, h0, a1, b1, rfl, h1, a2, b2, rfl, h2, a3, b3, rfl, h3, a4, b4, rfl, h4, a5, b5, rfl, h5, a6, b6, rfl, h6, a7, b7, rfl, h7, rfl⟩ := h
 obtain ⟨x0, rfl, k0⟩ := bz h0
 obtain ⟨x1, rfl, k1⟩ := oU h1
 obtain ⟨x2, rfl, k2⟩ := f6 h2
 obtain ⟨x3, rfl, k3⟩ := f6 h3
 obtain ⟨x4, rfl, k4⟩ := bz h4
 obtain ⟨x5, rfl, k5⟩ := bz h5
 obtain ⟨x6, rfl, k6⟩ := bz h6
 obtain ⟨x7, rfl, k7⟩ := bz h7
 exact ⟨⟨x0, x1, x2, x3, x4, x5, x6, x7⟩, rfl, ⟨k0, k1, k2, k3, k4, k5, k6, k7⟩⟩
@[simp] theorem BA (x : Ifc) : aH x.enc = true := by simp [Ifc.enc, aH, AV.pure]
@[simp] theorem yz : ∀ l : List Ifc, aG (l.map Ifc.enc) = true
 | [] => rfl
 | x :: r => by simp only [List.map_cons, aG, yz r, BA]; rfl
structure ARange where
 area : Int
 pfx : Pfx
 adv : Bool
def ARange.enc (r : ARange) : List AV := [.int .u32 r.area, .int .u32 r.pfx.addr, .int .i64 r.pfx.len, .bool r.adv]
def ARange.ok (r : ARange) : Prop := okU r.area ∧ Pfx.ok r.pfx
def pF : Ty := .st [.int .u32, mU, .bool]
theorem QN {as : List AV} (h : pF.T as) : ∃ s : ARange, as = s.enc ∧ s.ok := by
 simp only [pF, Ty.T.eq_5, TT] at h
 obtain ⟨a0, b0, rfl, h0, a1, b1, rfl, h1, a2, b2, rfl, h2, rfl⟩ := h
 obtain ⟨x0, rfl, k0⟩ := f6 h0
 obtain ⟨x1, rfl, k1⟩ := oU h1
 obtain ⟨x2, rfl⟩ := h2
 exact ⟨⟨x0, x1, x2⟩, rfl, ⟨k0, k1⟩⟩
@[simp] theorem so (x : ARange) : aH x.enc = true := by simp [ARange.enc, aH, AV.pure]
@[simp] theorem rE : ∀ l : List ARange, aG (l.map ARange.enc) = true
 | [] => rfl
 | x :: r => by simp only [List.map_cons, aG, rE r, so]; rfl
structure LSC where
 router : Int
 ifs : List Ifc
 ranges : List ARange
def LSC.enc (r : LSC) : List AV := [.int .u32 r.router, .sl 9 (r.ifs.map Ifc.enc), .sl 4 (r.ranges.map ARange.enc)]
def LSC.ok (r : LSC) : Prop := okU r.router ∧ (∀ x ∈ r.ifs, Ifc.ok x) ∧ (∀ x ∈ r.ranges, ARange.ok x)
def Kg : Ty := .st [.int .u32, .sl Kh, .sl pF]
theorem aui {as : List AV} (h : Kg.T as) : ∃ s : LSC, as = s.enc ∧ s.ok := by
 simp only [Kg, Ty.T.eq_5, TT] at h
 obtain ⟨a0, b0, rfl, h0, a1, b1, rfl, h1, a2, b2, rfl, h2, rfl⟩ := h
 obtain ⟨x0, rfl, k0⟩ := f6 h0
 obtain ⟨x1, rfl, k1⟩ := ef (fun _ => auj) h1
 obtain ⟨x2, rfl, k2⟩ := ef (fun _ => QN) h2
 exact ⟨⟨x0, x1, x2⟩, rfl, ⟨k0, k1, k2⟩⟩
@[simp] theorem Bz (x : LSC) : aH x.enc = true := by simp [LSC.enc, aH, AV.pure]
@[simp] theorem yy : ∀ l : List LSC, aG (l.map LSC.enc) = true
 | [] => rfl
 | x :: r => by simp only [List.map_cons, aG, yy r, Bz]; rfl
structure RuleP where
 permit : Bool
 pfx : Pfx
 min : Int
 max : Int
def RuleP.enc (r : RuleP) : List AV := [.bool r.permit, .int .u32 r.pfx.addr, .int .i64 r.pfx.len, .int .i64 r.min, .int .i64 r.max]
def RuleP.ok (r : RuleP) : Prop := Pfx.ok r.pfx ∧ okI r.min ∧ okI r.max
def sV : Ty := .st [.bool, mU, .int .i64, .int .i64]
theorem acW {as : List AV} (h : sV.T as) : ∃ s : RuleP, as = s.enc ∧ s.ok := by
 simp only [sV, Ty.T.eq_5, TT] at h
 obtain ⟨a0, b0, rfl, h0, a1, b1, rfl, h1, a2, b2, rfl, h2, a3, b3, rfl, h3, rfl⟩ := h
 obtain ⟨x0, rfl⟩ := h0
 obtain ⟨x1, rfl, k1⟩ := oU h1
 obtain ⟨x2, rfl, k2⟩ := bz h2
 obtain ⟨x3, rfl, k3⟩ := bz h3
 exact ⟨⟨x0, x1, x2, x3⟩, rfl, ⟨k1, k2, k3⟩⟩
@[simp] theorem uG (x : RuleP) : aH x.enc = true := by simp [RuleP.enc, aH, AV.pure]
@[simp] theorem tg : ∀ l : List RuleP, aG (l.map RuleP.enc) = true
 | [] => rfl
 | x :: r => by simp only [List.map_cons, aG, tg r, uG]; rfl
structure PList where
 name : List UInt8
 rules : List RuleP
def PList.enc (r : PList) : List AV := [.str r.name, .sl 5 (r.rules.map RuleP.enc)]
def PList.ok (r : PList) : Prop := (∀ x ∈ r.rules, RuleP.ok x)
def s7 : Ty := .st [.str, .sl sV]
theorem ac1 {as : List AV} (h : s7.T as) : ∃ s : PList, as = s.enc ∧ s.ok := by
 simp only [s7, Ty.T.eq_5, TT] at h
 obtain ⟨a0, b0, rfl, h0, a1, b1, rfl, h1, rfl⟩ := h
 obtain ⟨x0, rfl⟩ := ic h0
 obtain ⟨x1, rfl, k1⟩ := ef (fun _ => acW) h1
 exact ⟨⟨x0, x1⟩, rfl, k1⟩
@[simp] theorem uL (x : PList) : aH x.enc = true := by simp [PList.enc, aH, AV.pure]
@[simp] theorem tn : ∀ l : List PList, aG (l.map PList.enc) = true
 | [] => rfl
 | x :: r => by simp only [List.map_cons, aG, tn r, uL]; rfl
structure PathR where
 permit : Bool
 pattern : List UInt8
def PathR.enc (r : PathR) : List AV := [.bool r.permit, .str r.pattern]
def PathR.ok (r : PathR) : Prop := True
def s5 : Ty := .st [.bool, .str]
theorem acZ {as : List AV} (h : s5.T as) : ∃ s : PathR, as = s.enc ∧ s.ok := by
 simp only [s5, Ty.T.eq_5, TT] at h
 obtain ⟨a0, b0, rfl, h0, a1, b1, rfl, h1, rfl⟩ := h
 obtain ⟨x0, rfl⟩ := h0
 obtain ⟨x1, rfl⟩ := ic h1
 exact ⟨⟨x0, x1⟩, rfl, trivial⟩
@[simp] theorem uJ (x : PathR) : aH x.enc = true := by simp [PathR.enc, aH, AV.pure]
@[simp] theorem tk : ∀ l : List PathR, aG (l.map PathR.enc) = true
 | [] => rfl
 | x :: r => by simp only [List.map_cons, aG, tk r, uJ]; rfl
structure PathL where
 name : List UInt8
 rules : List PathR
def PathL.enc (r : PathL) : List AV := [.str r.name, .sl 2 (r.rules.map PathR.enc)]
def PathL.ok (r : PathL) : Prop := (∀ x ∈ r.rules, PathR.ok x)
def s6 : Ty := .st [.str, .sl s5]
theorem ac0 {as : List AV} (h : s6.T as) : ∃ s : PathL, as = s.enc ∧ s.ok := by
 simp only [s6, Ty.T.eq_5, TT] at h
 obtain ⟨a0, b0, rfl, h0, a1, b1, rfl, h1, rfl⟩ := h
 obtain ⟨x0, rfl⟩ := ic h0
 obtain ⟨x1, rfl, k1⟩ := ef (fun _ => acZ) h1
 exact ⟨⟨x0, x1⟩, rfl, k1⟩
@[simp] theorem uK (x : PathL) : aH x.enc = true := by simp [PathL.enc, aH, AV.pure]
@[simp] theorem tl : ∀ l : List PathL, aG (l.map PathL.enc) = true
 | [] => rfl
 | x :: r => by simp only [List.map_cons, aG, tl r, uK]; rfl
structure ComR where
 permit : Bool
 high : Int
 low : Int
def ComR.enc (r : ComR) : List AV := [.bool r.permit, .int .i64 r.high, .int .i64 r.low]
def ComR.ok (r : ComR) : Prop := okI r.high ∧ okI r.low
def yb : Ty := .st [.bool, .int .i64, .int .i64]
theorem atz {as : List AV} (h : yb.T as) : ∃ s : ComR, as = s.enc ∧ s.ok := by
 simp only [yb, Ty.T.eq_5, TT] at h
 obtain ⟨a0, b0, rfl, h0, a1, b1, rfl, h1, a2, b2, rfl, h2, rfl⟩ := h
 obtain ⟨x0, rfl⟩ := h0
 obtain ⟨x1, rfl, k1⟩ := bz h1
 obtain ⟨x2, rfl, k2⟩ := bz h2
 exact ⟨⟨x0, x1, x2⟩, rfl, ⟨k1, k2⟩⟩
@[simp] theorem xo (x : ComR) : aH x.enc = true := by simp [ComR.enc, aH, AV.pure]
@[simp] theorem w3 : ∀ l : List ComR, aG (l.map ComR.enc) = true
 | [] => rfl
 | x :: r => by simp only [List.map_cons, aG, w3 r, xo]; rfl
structure ComL where
 name : List UInt8
 rules : List ComR
def ComL.enc (r : ComL) : List AV := [.str r.name, .sl 3 (r.rules.map ComR.enc)]
def ComL.ok (r : ComL) : Prop := (∀ x ∈ r.rules, ComR.ok x)
def yc : Ty := .st [.str, .sl yb]
theorem atA {as : List AV} (h : yc.T as) : ∃ s : ComL, as = s.enc ∧ s.ok := by
 simp only [yc, Ty.T.eq_5, TT] at h
 obtain ⟨a0, b0, rfl, h0, a1, b1, rfl, h1, rfl⟩ := h
 obtain ⟨x0, rfl⟩ := ic h0
 obtain ⟨x1, rfl, k1⟩ := ef (fun _ => atz) h1
 exact ⟨⟨x0, x1⟩, rfl, k1⟩
@[simp] theorem xp (x : ComL) : aH x.enc = true := by simp [ComL.enc, aH, AV.pure]
@[simp] theorem w4 : ∀ l : List ComL, aG (l.map ComL.enc) = true
 | [] => rfl
 | x :: r => by simp only [List.map_cons, aG, w4 r, xp]; rfl
structure Mat where
 kind : Int
 name : List UInt8
 n : Int
 pfx : Pfx
 neg : Bool
def Mat.enc (r : Mat) : List AV := [.int .i64 r.kind, .str r.name, .int .i64 r.n, .int .u32 r.pfx.addr, .int .i64 r.pfx.len, .bool r.neg]
def Mat.ok (r : Mat) : Prop := okI r.kind ∧ okI r.n ∧ Pfx.ok r.pfx
def Kd : Ty := .st [.int .i64, .str, .int .i64, mU, .bool]
theorem aug {as : List AV} (h : Kd.T as) : ∃ s : Mat, as = s.enc ∧ s.ok := by
 simp only [Kd, Ty.T.eq_5, TT] at h
 obtain ⟨a0, b0, rfl, h0, a1, b1, rfl, h1, a2, b2, rfl, h2, a3, b3, rfl, h3, a4, b4, rfl, h4, rfl⟩ := h
 obtain ⟨x0, rfl, k0⟩ := bz h0
 obtain ⟨x1, rfl⟩ := ic h1
 obtain ⟨x2, rfl, k2⟩ := bz h2
 obtain ⟨x3, rfl, k3⟩ := oU h3
 obtain ⟨x4, rfl⟩ := h4
 exact ⟨⟨x0, x1, x2, x3, x4⟩, rfl, ⟨k0, k2, k3⟩⟩
@[simp] theorem Bw (x : Mat) : aH x.enc = true := by simp [Mat.enc, aH, AV.pure]
@[simp] theorem yw : ∀ l : List Mat, aG (l.map Mat.enc) = true
 | [] => rfl
 | x :: r => by simp only [List.map_cons, aG, yw r, Bw]; rfl
structure Actn where
 kind : Int
 n : Int
 asn : Int
 com : Int
 addr : Int
def Actn.enc (r : Actn) : List AV := [.int .i64 r.kind, .int .i64 r.n, .int .i64 r.asn, .int .u32 r.com, .int .u32 r.addr]
def Actn.ok (r : Actn) : Prop := okI r.kind ∧ okI r.n ∧ okI r.asn ∧ okU r.com ∧ okU r.addr
def yd : Ty := .st [.int .i64, .int .i64, .int .i64, .int .u32, .int .u32]
theorem atB {as : List AV} (h : yd.T as) : ∃ s : Actn, as = s.enc ∧ s.ok := by
 simp only [yd, Ty.T.eq_5, TT] at h
 obtain ⟨a0, b0, rfl, h0, a1, b1, rfl, h1, a2, b2, rfl, h2, a3, b3, rfl, h3, a4, b4, rfl, h4, rfl⟩ := h
 obtain ⟨x0, rfl, k0⟩ := bz h0
 obtain ⟨x1, rfl, k1⟩ := bz h1
 obtain ⟨x2, rfl, k2⟩ := bz h2
 obtain ⟨x3, rfl, k3⟩ := f6 h3
 obtain ⟨x4, rfl, k4⟩ := f6 h4
 exact ⟨⟨x0, x1, x2, x3, x4⟩, rfl, ⟨k0, k1, k2, k3, k4⟩⟩
@[simp] theorem xq (x : Actn) : aH x.enc = true := by simp [Actn.enc, aH, AV.pure]
@[simp] theorem w5 : ∀ l : List Actn, aG (l.map Actn.enc) = true
 | [] => rfl
 | x :: r => by simp only [List.map_cons, aG, w5 r, xq]; rfl
structure Trm where
 name : List UInt8
 mats : List Mat
 acts : List Actn
 verdict : Int
def Trm.enc (r : Trm) : List AV := [.str r.name, .sl 6 (r.mats.map Mat.enc), .sl 5 (r.acts.map Actn.enc), .int .i64 r.verdict]
def Trm.ok (r : Trm) : Prop := (∀ x ∈ r.mats, Mat.ok x) ∧ (∀ x ∈ r.acts, Actn.ok x) ∧ okI r.verdict
def J8 : Ty := .st [.str, .sl Kd, .sl yd, .int .i64]
theorem auc {as : List AV} (h : J8.T as) : ∃ s : Trm, as = s.enc ∧ s.ok := by
 simp only [J8, Ty.T.eq_5, TT] at h
 obtain ⟨a0, b0, rfl, h0, a1, b1, rfl, h1, a2, b2, rfl, h2, a3, b3, rfl, h3, rfl⟩ := h
 obtain ⟨x0, rfl⟩ := ic h0
 obtain ⟨x1, rfl, k1⟩ := ef (fun _ => aug) h1
 obtain ⟨x2, rfl, k2⟩ := ef (fun _ => atB) h2
 obtain ⟨x3, rfl, k3⟩ := bz h3
 exact ⟨⟨x0, x1, x2, x3⟩, rfl, ⟨k1, k2, k3⟩⟩
@[simp] theorem Bq (x : Trm) : aH x.enc = true := by simp [Trm.enc, aH, AV.pure]
@[simp] theorem yp : ∀ l : List Trm, aG (l.map Trm.enc) = true
 | [] => rfl
 | x :: r => by simp only [List.map_cons, aG, yp r, Bq]; rfl
structure Pol where
 name : List UInt8
 terms : List Trm
 dflt : Int
def Pol.enc (r : Pol) : List AV := [.str r.name, .sl 4 (r.terms.map Trm.enc), .int .i64 r.dflt]
def Pol.ok (r : Pol) : Prop := (∀ x ∈ r.terms, Trm.ok x) ∧ okI r.dflt
def Ka : Ty := .st [.str, .sl J8, .int .i64]
theorem aue {as : List AV} (h : Ka.T as) : ∃ s : Pol, as = s.enc ∧ s.ok := by
 simp only [Ka, Ty.T.eq_5, TT] at h
 obtain ⟨a0, b0, rfl, h0, a1, b1, rfl, h1, a2, b2, rfl, h2, rfl⟩ := h
 obtain ⟨x0, rfl⟩ := ic h0
 obtain ⟨x1, rfl, k1⟩ := ef (fun _ => auc) h1
 obtain ⟨x2, rfl, k2⟩ := bz h2
 exact ⟨⟨x0, x1, x2⟩, rfl, ⟨k1, k2⟩⟩
@[simp] theorem Bt (x : Pol) : aH x.enc = true := by simp [Pol.enc, aH, AV.pure]
@[simp] theorem yt : ∀ l : List Pol, aG (l.map Pol.enc) = true
 | [] => rfl
 | x :: r => by simp only [List.map_cons, aG, yt r, Bt]; rfl
structure PSet where
 prefixes : List PList
 paths : List PathL
 comms : List ComL
 pols : List Pol
def PSet.enc (r : PSet) : List AV := [.sl 2 (r.prefixes.map PList.enc), .sl 2 (r.paths.map PathL.enc), .sl 2 (r.comms.map ComL.enc), .sl 3 (r.pols.map Pol.enc)]
def PSet.ok (r : PSet) : Prop := (∀ x ∈ r.prefixes, PList.ok x) ∧ (∀ x ∈ r.paths, PathL.ok x) ∧ (∀ x ∈ r.comms, ComL.ok x) ∧ (∀ x ∈ r.pols, Pol.ok x)
def xZ : Ty := .st [.sl s7, .sl s6, .sl yc, .sl Ka]
theorem atx {as : List AV} (h : xZ.T as) : ∃ s : PSet, as = s.enc ∧ s.ok := by
 simp only [xZ, Ty.T.eq_5, TT] at h
 obtain ⟨a0, b0, rfl, h0, a1, b1, rfl, h1, a2, b2, rfl, h2, a3, b3, rfl, h3, rfl⟩ := h
 obtain ⟨x0, rfl, k0⟩ := ef (fun _ => ac1) h0
 obtain ⟨x1, rfl, k1⟩ := ef (fun _ => ac0) h1
 obtain ⟨x2, rfl, k2⟩ := ef (fun _ => atA) h2
 obtain ⟨x3, rfl, k3⟩ := ef (fun _ => aue) h3
 exact ⟨⟨x0, x1, x2, x3⟩, rfl, ⟨k0, k1, k2, k3⟩⟩
@[simp] theorem xm (x : PSet) : aH x.enc = true := by simp [PSet.enc, aH, AV.pure]
@[simp] theorem wY : ∀ l : List PSet, aG (l.map PSet.enc) = true
 | [] => rfl
 | x :: r => by simp only [List.map_cons, aG, wY r, xm]; rfl
structure PeerC where
 kind : Int
 asn : Int
 addr : Int
 loc : Int
 client : Bool
 hold : Int
 restart : Int
 imp : List UInt8
 exp : List UInt8
 nextSelf : Bool
 damp : Bool
def PeerC.enc (r : PeerC) : List AV := [.int .i64 r.kind, .int .i64 r.asn, .int .u32 r.addr, .int .u32 r.loc, .bool r.client, .int .i64 r.hold, .int .i64 r.restart, .str r.imp, .str r.exp, .bool r.nextSelf, .bool r.damp]
def PeerC.ok (r : PeerC) : Prop := okI r.kind ∧ okI r.asn ∧ okU r.addr ∧ okU r.loc ∧ okI r.hold ∧ okI r.restart
def s4 : Ty := .st [.int .i64, .int .i64, .int .u32, .int .u32, .bool, .int .i64, .int .i64, .str, .str, .bool, .bool]
theorem acY {as : List AV} (h : s4.T as) : ∃ s : PeerC, as = s.enc ∧ s.ok := by
 simp only [s4, Ty.T.eq_5, TT] at h
 obtain ⟨a0, b0, rfl, h0, a1, b1, rfl, h1, a2, b2, rfl, h2, a3, b3, rfl, h3, a4, b4, rfl, h4, a5, b5, rfl, h5, a6, b6, rfl, h6, a7, b7, rfl, h7, a8, b8, rfl, h8, a9, b9, rfl, h9, a10, b10, rfl, h10, rfl⟩ := h
 obtain ⟨x0, rfl, k0⟩ := bz h0
 obtain ⟨x1, rfl, k1⟩ := bz h1
 obtain ⟨x2, rfl, k2⟩ := f6 h2
 obtain ⟨x3, rfl, k3⟩ := f6 h3
 obtain ⟨x4, rfl⟩ := h4
 obtain ⟨x5, rfl, k5⟩ := bz h5
 obtain ⟨x6, rfl, k6⟩ := bz h6
 obtain ⟨x7, rfl⟩ := ic h7
 obtain ⟨x8, rfl⟩ := ic h8
 obtain ⟨x9, rfl⟩ := h9
 obtain ⟨x10, rfl⟩ := h10
 exact ⟨⟨x0, x1, x2, x3, x4, x5, x6, x7, x8, x9, x10⟩, rfl, ⟨k0, k1, k2, k3, k5, k6⟩⟩
@[simp] theorem uI (x : PeerC) : aH x.enc = true := by simp [PeerC.enc, aH, AV.pure]
@[simp] theorem tj : ∀ l : List PeerC, aG (l.map PeerC.enc) = true
 | [] => rfl
 | x :: r => by simp only [List.map_cons, aG, tj r, uI]; rfl
structure DampC where
 half : Int
 reuse : Int
 suppress : Int
 maxTime : Int
def DampC.enc (r : DampC) : List AV := [.int .i64 r.half, .int .i64 r.reuse, .int .i64 r.suppress, .int .i64 r.maxTime]
def DampC.ok (r : DampC) : Prop := okI r.half ∧ okI r.reuse ∧ okI r.suppress ∧ okI r.maxTime
def s8 : Ty := .st [.int .i64, .int .i64, .int .i64, .int .i64]
theorem ac2 {as : List AV} (h : s8.T as) : ∃ s : DampC, as = s.enc ∧ s.ok := by
 simp only [s8, Ty.T.eq_5, TT] at h
 obtain ⟨a0, b0, rfl, h0, a1, b1, rfl, h1, a2, b2, rfl, h2, a3, b3, rfl, h3, rfl⟩ := h
 obtain ⟨x0, rfl, k0⟩ := bz h0
 obtain ⟨x1, rfl, k1⟩ := bz h1
 obtain ⟨x2, rfl, k2⟩ := bz h2
 obtain ⟨x3, rfl, k3⟩ := bz h3
 exact ⟨⟨x0, x1, x2, x3⟩, rfl, ⟨k0, k1, k2, k3⟩⟩
@[simp] theorem uM (x : DampC) : aH x.enc = true := by simp [DampC.enc, aH, AV.pure]
@[simp] theorem tp : ∀ l : List DampC, aG (l.map DampC.enc) = true
 | [] => rfl
 | x :: r => by simp only [List.map_cons, aG, tp r, uM]; rfl
structure PVC where
 asn : Int
 confed : Int
 router : Int
 cluster : Int
 peers : List PeerC
 nets : List Pfx
 pols : PSet
 damp : DampC
 multi : Int
def PVC.enc (r : PVC) : List AV := [.int .i64 r.asn, .int .i64 r.confed, .int .u32 r.router, .int .u32 r.cluster, .sl 11 (r.peers.map PeerC.enc), .sl 2 (r.nets.map Pfx.enc), .sl 2 (r.pols.prefixes.map PList.enc), .sl 2 (r.pols.paths.map PathL.enc), .sl 2 (r.pols.comms.map ComL.enc), .sl 3 (r.pols.pols.map Pol.enc), .int .i64 r.damp.half, .int .i64 r.damp.reuse, .int .i64 r.damp.suppress, .int .i64 r.damp.maxTime, .int .i64 r.multi]
def PVC.ok (r : PVC) : Prop := okI r.asn ∧ okI r.confed ∧ okU r.router ∧ okU r.cluster ∧ (∀ x ∈ r.peers, PeerC.ok x) ∧ (∀ x ∈ r.nets, Pfx.ok x) ∧ PSet.ok r.pols ∧ DampC.ok r.damp ∧ okI r.multi
def Kc : Ty := .st [.int .i64, .int .i64, .int .u32, .int .u32, .sl s4, .sl mU, xZ, s8, .int .i64]
theorem auf {as : List AV} (h : Kc.T as) : ∃ s : PVC, as = s.enc ∧ s.ok := by
 simp only [Kc, Ty.T.eq_5, TT] at h
 obtain ⟨a0, b0, rfl, h0, a1, b1, rfl, h1, a2, b2, rfl, h2, a3, b3, rfl, h3, a4, b4, rfl, h4, a5, b5, rfl, h5, a6, b6, rfl, h6, a7, b7, rfl, h7, a8, b8, rfl, h8, rfl⟩ := h
 obtain ⟨x0, rfl, k0⟩ := bz h0
 obtain ⟨x1, rfl, k1⟩ := bz h1
 obtain ⟨x2, rfl, k2⟩ := f6 h2
 obtain ⟨x3, rfl, k3⟩ := f6 h3
 obtain ⟨x4, rfl, k4⟩ := ef (fun _ => acY) h4
 obtain ⟨x5, rfl, k5⟩ := ef (fun _ => oU) h5
 obtain ⟨x6, rfl, k6⟩ := atx h6
 obtain ⟨x7, rfl, k7⟩ := ac2 h7
 obtain ⟨x8, rfl, k8⟩ := bz h8
 exact ⟨⟨x0, x1, x2, x3, x4, x5, x6, x7, x8⟩, rfl, ⟨k0, k1, k2, k3, k4, k5, k6, k7, k8⟩⟩
@[simp] theorem Bv (x : PVC) : aH x.enc = true := by simp [PVC.enc, aH, AV.pure]
@[simp] theorem yv : ∀ l : List PVC, aG (l.map PVC.enc) = true
 | [] => rfl
 | x :: r => by simp only [List.map_cons, aG, yv r, Bv]; rfl
structure Red where
 src : Int
 dst : Int
 pol : List UInt8
 metric : Int
 second : Bool
def Red.enc (r : Red) : List AV := [.int .i64 r.src, .int .i64 r.dst, .str r.pol, .int .i64 r.metric, .bool r.second]
def Red.ok (r : Red) : Prop := okI r.src ∧ okI r.dst ∧ okI r.metric
def J9 : Ty := .st [.int .i64, .int .i64, .str, .int .i64, .bool]
theorem aud {as : List AV} (h : J9.T as) : ∃ s : Red, as = s.enc ∧ s.ok := by
 simp only [J9, Ty.T.eq_5, TT] at h
 obtain ⟨a0, b0, rfl, h0, a1, b1, rfl, h1, a2, b2, rfl, h2, a3, b3, rfl, h3, a4, b4, rfl, h4, rfl⟩ := h
 obtain ⟨x0, rfl, k0⟩ := bz h0
 obtain ⟨x1, rfl, k1⟩ := bz h1
 obtain ⟨x2, rfl⟩ := ic h2
 obtain ⟨x3, rfl, k3⟩ := bz h3
 obtain ⟨x4, rfl⟩ := h4
 exact ⟨⟨x0, x1, x2, x3, x4⟩, rfl, ⟨k0, k1, k3⟩⟩
@[simp] theorem Br (x : Red) : aH x.enc = true := by simp [Red.enc, aH, AV.pure]
@[simp] theorem yq : ∀ l : List Red, aG (l.map Red.enc) = true
 | [] => rfl
 | x :: r => by simp only [List.map_cons, aG, yq r, Br]; rfl
structure Stat where
 pfx : Pfx
 hop : Int
 dist : Int
def Stat.enc (r : Stat) : List AV := [.int .u32 r.pfx.addr, .int .i64 r.pfx.len, .int .u32 r.hop, .int .i64 r.dist]
def Stat.ok (r : Stat) : Prop := Pfx.ok r.pfx ∧ okU r.hop ∧ okI r.dist
def xY : Ty := .st [mU, .int .u32, .int .i64]
theorem atw {as : List AV} (h : xY.T as) : ∃ s : Stat, as = s.enc ∧ s.ok := by
 simp only [xY, Ty.T.eq_5, TT] at h
 obtain ⟨a0, b0, rfl, h0, a1, b1, rfl, h1, a2, b2, rfl, h2, rfl⟩ := h
 obtain ⟨x0, rfl, k0⟩ := oU h0
 obtain ⟨x1, rfl, k1⟩ := f6 h1
 obtain ⟨x2, rfl, k2⟩ := bz h2
 exact ⟨⟨x0, x1, x2⟩, rfl, ⟨k0, k1, k2⟩⟩
@[simp] theorem xl (x : Stat) : aH x.enc = true := by simp [Stat.enc, aH, AV.pure]
@[simp] theorem wU : ∀ l : List Stat, aG (l.map Stat.enc) = true
 | [] => rfl
 | x :: r => by simp only [List.map_cons, aG, wU r, xl]; rfl
structure RConf where
 name : List UInt8
 ls : LSC
 hasPV : Bool
 pv : PVC
 labels : Bool
 reroute : Bool
 redist : List Red
 stat : List Stat
 dists : List Int
def RConf.enc (r : RConf) : List AV := [.str r.name, .int .u32 r.ls.router, .sl 9 (r.ls.ifs.map Ifc.enc), .sl 4 (r.ls.ranges.map ARange.enc), .bool r.hasPV, .int .i64 r.pv.asn, .int .i64 r.pv.confed, .int .u32 r.pv.router, .int .u32 r.pv.cluster, .sl 11 (r.pv.peers.map PeerC.enc), .sl 2 (r.pv.nets.map Pfx.enc), .sl 2 (r.pv.pols.prefixes.map PList.enc), .sl 2 (r.pv.pols.paths.map PathL.enc), .sl 2 (r.pv.pols.comms.map ComL.enc), .sl 3 (r.pv.pols.pols.map Pol.enc), .int .i64 r.pv.damp.half, .int .i64 r.pv.damp.reuse, .int .i64 r.pv.damp.suppress, .int .i64 r.pv.damp.maxTime, .int .i64 r.pv.multi, .bool r.labels, .bool r.reroute, .sl 5 (r.redist.map Red.enc), .sl 4 (r.stat.map Stat.enc), .sl 1 (r.dists.map gj)]
def RConf.ok (r : RConf) : Prop := LSC.ok r.ls ∧ PVC.ok r.pv ∧ (∀ x ∈ r.redist, Red.ok x) ∧ (∀ x ∈ r.stat, Stat.ok x) ∧ (∀ x ∈ r.dists, okI x)
def sW : Ty := .st [.str, Kg, .bool, Kc, .bool, .bool, .sl J9, .sl xY, .sl (.int .i64)]
theorem acX {as : List AV} (h : sW.T as) : ∃ s : RConf, as = s.enc ∧ s.ok := by
 simp only [sW, Ty.T.eq_5, TT] at h
 obtain ⟨a0, b0, rfl, h0, a1, b1, rfl, h1, a2, b2, rfl, h2, a3, b3, rfl, h3, a4, b4, rfl, h4, a5, b5, rfl, h5, a6, b6, rfl, h6, a7, b7, rfl, h7, a8, b8, rfl, h8, rfl⟩ := h
 obtain ⟨x0, rfl⟩ := ic h0
 obtain ⟨x1, rfl, k1⟩ := aui h1
 obtain ⟨x2, rfl⟩ := h2
 obtain ⟨x3, rfl, k3⟩ := auf h3
 obtain ⟨x4, rfl⟩ := h4
 obtain ⟨x5, rfl⟩ := h5
 obtain ⟨x6, rfl, k6⟩ := ef (fun _ => aud) h6
 obtain ⟨x7, rfl, k7⟩ := ef (fun _ => atw) h7
 obtain ⟨x8, rfl, k8⟩ := aub h8
 exact ⟨⟨x0, x1, x2, x3, x4, x5, x6, x7, x8⟩, rfl, ⟨k1, k3, k6, k7, k8⟩⟩
@[simp] theorem uH (x : RConf) : aH x.enc = true := by simp [RConf.enc, aH, AV.pure]
@[simp] theorem th : ∀ l : List RConf, aG (l.map RConf.enc) = true
 | [] => rfl
 | x :: r => by simp only [List.map_cons, aG, th r, uH]; rfl
structure LEnd where
 router : Int
 ifc : Int
def LEnd.enc (r : LEnd) : List AV := [.int .i64 r.router, .int .i64 r.ifc]
def LEnd.ok (r : LEnd) : Prop := okI r.router ∧ okI r.ifc
def ya : Ty := .st [.int .i64, .int .i64]
theorem aty {as : List AV} (h : ya.T as) : ∃ s : LEnd, as = s.enc ∧ s.ok := by
 simp only [ya, Ty.T.eq_5, TT] at h
 obtain ⟨a0, b0, rfl, h0, a1, b1, rfl, h1, rfl⟩ := h
 obtain ⟨x0, rfl, k0⟩ := bz h0
 obtain ⟨x1, rfl, k1⟩ := bz h1
 exact ⟨⟨x0, x1⟩, rfl, ⟨k0, k1⟩⟩
@[simp] theorem xn (x : LEnd) : aH x.enc = true := by simp [LEnd.enc, aH, AV.pure]
@[simp] theorem wZ : ∀ l : List LEnd, aG (l.map LEnd.enc) = true
 | [] => rfl
 | x :: r => by simp only [List.map_cons, aG, wZ r, xn]; rfl
structure Lnk where
 ends : List LEnd
 delay : Int
def Lnk.enc (r : Lnk) : List AV := [.sl 2 (r.ends.map LEnd.enc), .int .i64 r.delay]
def Lnk.ok (r : Lnk) : Prop := (∀ x ∈ r.ends, LEnd.ok x) ∧ okI r.delay
def Kf : Ty := .st [.sl ya, .int .i64]
theorem auh {as : List AV} (h : Kf.T as) : ∃ s : Lnk, as = s.enc ∧ s.ok := by
 simp only [Kf, Ty.T.eq_5, TT] at h
 obtain ⟨a0, b0, rfl, h0, a1, b1, rfl, h1, rfl⟩ := h
 obtain ⟨x0, rfl, k0⟩ := ef (fun _ => aty) h0
 obtain ⟨x1, rfl, k1⟩ := bz h1
 exact ⟨⟨x0, x1⟩, rfl, ⟨k0, k1⟩⟩
@[simp] theorem Bx (x : Lnk) : aH x.enc = true := by simp [Lnk.enc, aH, AV.pure]
@[simp] theorem yx : ∀ l : List Lnk, aG (l.map Lnk.enc) = true
 | [] => rfl
 | x :: r => by simp only [List.map_cons, aG, yx r, Bx]; rfl
structure Topo where
 routers : List RConf
 links : List Lnk
def Topo.enc (r : Topo) : List AV := [.sl 25 (r.routers.map RConf.enc), .sl 2 (r.links.map Lnk.enc)]
def Topo.ok (r : Topo) : Prop := (∀ x ∈ r.routers, RConf.ok x) ∧ (∀ x ∈ r.links, Lnk.ok x)
def kD : Ty := .st [.sl sW, .sl Kf]
theorem Oy {as : List AV} (h : kD.T as) : ∃ s : Topo, as = s.enc ∧ s.ok := by
 simp only [kD, Ty.T.eq_5, TT] at h
 obtain ⟨a0, b0, rfl, h0, a1, b1, rfl, h1, rfl⟩ := h
 obtain ⟨x0, rfl, k0⟩ := ef (fun _ => acX) h0
 obtain ⟨x1, rfl, k1⟩ := ef (fun _ => auh) h1
 exact ⟨⟨x0, x1⟩, rfl, ⟨k0, k1⟩⟩
@[simp] theorem xk (x : Topo) : aH x.enc = true := by simp [Topo.enc, aH, AV.pure]
@[simp] theorem wT : ∀ l : List Topo, aG (l.map Topo.enc) = true
 | [] => rfl
 | x :: r => by simp only [List.map_cons, aG, wT r, xk]; rfl
end Go.AM.IR
set_option maxHeartbeats 4000000
set_option maxRecDepth 20000
namespace Go.AM.IR
def fU : List RConf → List UInt8 → Bool
 | [], _ => false
 | c :: r, k => if c.name = k then true else fU r k
def dK : List RConf → List UInt8 → Int → Int
 | [], _, _ => 0
 | c :: r, k, n => if c.name = k then n else dK r k (n + 1)
section
variable {kv : AV → Prop}
end
theorem nB (l : List RConf) (k : List UInt8) (t : Topo) (hl1 : t.routers = l) (hl : l.length < 2 ^ 40) (ln : Int) (hln : ln = l.length) : ∀ (rest done : List RConf)  (T : List (Nat × AV)) (H : aq) (c : Nat) (n : Int) (e : l = done ++ rest) (hn : n = done.length) , Ev G ⟨Qr, ⟨(8, .sl 25 (l.map RConf.enc)) :: (9, .int .i64 ln) :: (10, .int .i64 n) :: (1, .str k) :: (2, .ref 66 1 0) :: T, (66, some (1, .cells t.enc)) :: H, c⟩, [.t 4, .t 5], 0⟩ (⟨.tup [.int .i64 (dK rest k n), .bool (fU rest k)], []⟩)
 | [], done,  T, H, c, n, e, hn => by
  have hd : l.length = done.length := by simp [e]
  have hll : (l.map RConf.enc).length = l.length := by simp
  refine evl ?_
  repeat' (first | refine ae ?_ | (refine ab ?_ ?_ <;> intro h))
  refine ag ?_; rfl
 | x :: r, done,  T, H, c, n, e, hn => by
  have hd : l.length = done.length + (r.length + 1) := by simp [e]
  have hll : (l.map RConf.enc).length = l.length := by simp
  have hx : (l.map RConf.enc)[n.toNat]? = some (RConf.enc x) := by simp [e, hn]
  have hy : (t.routers.map RConf.enc)[n.toNat]? = some x.enc := by rw [hl1]; exact hx
  have hm : (t.routers.map RConf.enc).length = l.length := by simp [hl1]
  by_cases hk : x.name = k
  ·refine evl ?_
   repeat' (first | refine cg ?_ | (refine ab ?_ ?_ <;> intro h))
   refine ag ?_
   simp [dK, fU, hk]
  ·refine evl ?_
   repeat' (first | refine cg ?_ | (refine ab ?_ ?_ <;> intro h))
   rw [show dK (x :: r) k n = dK r k (n + 1) from by simp [dK, hk], show fU (x :: r) k = fU r k from by simp [fU, hk]]
   refine am [8, 9, 10, 1, 2] [66] ?_; exact nB l k t hl1 hl ln hln r (done ++ [x])  _ _ _ (n + 1) (by simp [e]) (by simp [hn] <;> omega)
theorem xd (t : Topo) (ht : t.routers.length < 2 ^ 40) (k : List UInt8) : ax G 387 [.agg t.enc, .str k] [] ⟨.tup [.int .i64 (dK t.routers k 0), .bool (fU t.routers k)], []⟩ := by
 have hll : (t.routers.map RConf.enc).length = t.routers.length := by simp
 refine aa (F := f387) rfl rfl (ah 300 _ _ _ _ ?_)
 repeat' (first | refine ae ?_ | (refine ab ?_ ?_ <;> intro h))
 refine am [8, 9, 10, 1, 2] [66] ?_
 rw [hll]
 exact nB t.routers k t rfl ht _ rfl t.routers [] _ _ _ 0 rfl rfl
end Go.AM.IR
namespace Go.AM.IR
def ca {α : Type} (f : α → Nat) : List α → Nat
 | [] => 0
 | x :: r => f x + ca f r
def pD (t : Trm) : Nat := t.mats.length + t.acts.length
def lJ (p : Pol) : Nat := p.terms.length + ca pD p.terms
def gz (s : PSet) : Nat := s.prefixes.length + s.paths.length + s.comms.length + s.pols.length + ca (fun p => p.rules.length) s.prefixes + ca (fun p => p.rules.length) s.paths + ca (fun p => p.rules.length) s.comms + ca lJ s.pols
theorem vc (l : List Trm) (P : List (List AV)) (j ln2 : Int) (tot : Int) (htot : tot < 2 ^ 40) (hj : 0 ≤ j ∧ j < 2 ^ 50) (R : Ret) (go : ∀ (T : List (Nat × AV)) (H : aq) (c : Nat), Ev G ⟨wa, ⟨(69, .sl 3 P) :: (70, .int .i64 ln2) :: (71, .int .i64 (j + 1)) :: (3, .int .i64 tot) :: T, H, c⟩, [.t 2], 0⟩ R) (hl : l.length < 2 ^ 40) (ln : Int) (hln : ln = l.length) : ∀ (rest done : List Trm) (a : Int) (T : List (Nat × AV)) (H : aq) (c : Nat) (n : Int) (e : l = done ++ rest) (hn : n = done.length) (ha : a + ((ca pD rest : Nat) : Int) = tot) (h0 : 0 ≤ a), Ev G ⟨Ns, ⟨(81, .sl 4 (l.map Trm.enc)) :: (82, .int .i64 ln) :: (83, .int .i64 n) :: (3, .int .i64 a) :: (69, .sl 3 P) :: (70, .int .i64 ln2) :: (71, .int .i64 j) :: T, H, c⟩, [.t 2], 0⟩ R
 | [], done, a, T, H, c, n, e, hn, ha, h0 => by
  have hd : l.length = done.length := by simp [e]
  have hll : (l.map Trm.enc).length = l.length := by simp
  obtain rfl : a = tot := by simp only [ca] at ha; omega
  refine evl ?_
  repeat' (first | refine ae ?_ | (refine ab ?_ ?_ <;> intro h))
  refine am [69, 70, 71, 3] [] ?_
  exact go _ _ _
 | x :: r, done, a, T, H, c, n, e, hn, ha, h0 => by
  have hd : l.length = done.length + (r.length + 1) := by simp [e]
  have hll : (l.map Trm.enc).length = l.length := by simp
  have hx : (l.map Trm.enc)[n.toNat]? = some (Trm.enc x) := by simp [e, hn]
  have m1 : (x.mats.map Mat.enc).length = x.mats.length := by simp
  have m2 : (x.acts.map Actn.enc).length = x.acts.length := by simp
  simp only [ca, pD] at ha
  refine evl ?_
  repeat' (first | refine ae ?_ | (refine ab ?_ ?_ <;> intro h))
  refine am [81, 82, 83, 3, 69, 70, 71] [] ?_; exact vc l P j ln2 tot htot hj R go hl ln hln r (done ++ [x]) (a + (((x.mats.map Mat.enc).length : Int) + ((x.acts.map Actn.enc).length : Int))) _ _ _ (n + 1) (by simp [e]) (by simp [hn] <;> omega) (by rw [← ha, m1, m2]; omega) (by omega)
theorem u9 (l : List Pol) (tot : Int) (htot : tot < 2 ^ 40) (hl : l.length < 2 ^ 40) (ln : Int) (hln : ln = l.length) : ∀ (rest done : List Pol) (a : Int) (T : List (Nat × AV)) (H : aq) (c : Nat) (n : Int) (e : l = done ++ rest) (hn : n = done.length) (ha : a + ((ca lJ rest : Nat) : Int) = tot) (h0 : 0 ≤ a), Ev G ⟨wa, ⟨(69, .sl 3 (l.map Pol.enc)) :: (70, .int .i64 ln) :: (71, .int .i64 n) :: (3, .int .i64 a) :: T, H, c⟩, [.t 2], 0⟩ (⟨.int .i64 tot, []⟩)
 | [], done, a, T, H, c, n, e, hn, ha, h0 => by
  have hd : l.length = done.length := by simp [e]
  have hll : (l.map Pol.enc).length = l.length := by simp
  obtain rfl : a = tot := by simp only [ca] at ha; omega
  refine evl ?_
  repeat' (first | refine ae ?_ | (refine ab ?_ ?_ <;> intro h))
  refine ag ?_; rfl
 | x :: r, done, a, T, H, c, n, e, hn, ha, h0 => by
  have hd : l.length = done.length + (r.length + 1) := by simp [e]
  have hll : (l.map Pol.enc).length = l.length := by simp
  have hx : (l.map Pol.enc)[n.toNat]? = some (Pol.enc x) := by simp [e, hn]
  have m1 : (x.terms.map Trm.enc).length = x.terms.length := by simp
  simp only [ca, lJ] at ha
  refine evl ?_
  repeat' (first | refine ae ?_ | (refine ab ?_ ?_ <;> intro h))
  refine am [81, 82, 83, 3, 69, 70, 71] [] ?_
  rw [m1]
  exact vc x.terms (l.map Pol.enc) n ln (a + x.terms.length + ((ca pD x.terms : Nat) : Int)) (by omega) (by omega) _ (fun T H c => u9 l tot htot hl ln hln r (done ++ [x]) (a + x.terms.length + ((ca pD x.terms : Nat) : Int)) T H c (n + 1) (by simp [e]) (by simp [hn] <;> omega) (by omega) (by omega)) (by omega) _ rfl x.terms [] (a + x.terms.length) _ _ _ 0 rfl rfl rfl (by omega)
theorem ri (l : List ComL) (s : PSet) (hl1 : s.comms = l) (tot : Int) (htot : tot < 2 ^ 40) (hsz : s.pols.length < 2 ^ 40 ∧ s.comms.length < 2 ^ 40 ∧ s.paths.length < 2 ^ 40) (hl : l.length < 2 ^ 40) (ln : Int) (hln : ln = l.length) : ∀ (rest done : List ComL) (a : Int) (T : List (Nat × AV)) (H : aq) (c : Nat) (n : Int) (e : l = done ++ rest) (hn : n = done.length) (ha : a + ((ca (fun p => p.rules.length) rest + (ca lJ s.pols) : Nat) : Int) = tot) (h0 : 0 ≤ a), Ev G ⟨Nt, ⟨(56, .sl 2 (l.map ComL.enc)) :: (57, .int .i64 ln) :: (58, .int .i64 n) :: (3, .int .i64 a) :: (1, .ref 65 1 0) :: T, (65, some (1, .cells s.enc)) :: H, c⟩, [.t 2], 0⟩ (⟨.int .i64 tot, []⟩)
 | [], done, a, T, H, c, n, e, hn, ha, h0 => by
  have hd : l.length = done.length := by simp [e]
  have hll : (l.map ComL.enc).length = l.length := by simp
  have m1 : (s.pols.map Pol.enc).length = s.pols.length := by simp
  refine evl ?_
  repeat' (first | refine ae ?_ | (refine ab ?_ ?_ <;> intro h))
  refine am [69, 70, 71, 3] [] ?_
  rw [m1]
  exact u9 s.pols tot htot (by omega) _ rfl s.pols [] a _ _ _ 0 rfl rfl (by simp only [ca] at ha; omega) h0
 | x :: r, done, a, T, H, c, n, e, hn, ha, h0 => by
  have hd : l.length = done.length + (r.length + 1) := by simp [e]
  have hll : (l.map ComL.enc).length = l.length := by simp
  have hx : (l.map ComL.enc)[n.toNat]? = some (ComL.enc x) := by simp [e, hn]
  have m1 : (x.rules.map ComR.enc).length = x.rules.length := by simp
  simp only [ca] at ha
  refine evl ?_
  repeat' (first | refine ae ?_ | (refine ab ?_ ?_ <;> intro h))
  refine am [56, 57, 58, 3, 1] [65] ?_; exact ri l s hl1 tot htot hsz hl ln hln r (done ++ [x]) (a + ((x.rules.map ComR.enc).length : Int)) _ _ _ (n + 1) (by simp [e]) (by simp [hn] <;> omega) (by rw [← ha, m1]; omega) (by omega)
theorem rj (l : List PathL) (s : PSet) (hl1 : s.paths = l) (tot : Int) (htot : tot < 2 ^ 40) (hsz : s.pols.length < 2 ^ 40 ∧ s.comms.length < 2 ^ 40 ∧ s.paths.length < 2 ^ 40) (hl : l.length < 2 ^ 40) (ln : Int) (hln : ln = l.length) : ∀ (rest done : List PathL) (a : Int) (T : List (Nat × AV)) (H : aq) (c : Nat) (n : Int) (e : l = done ++ rest) (hn : n = done.length) (ha : a + ((ca (fun p => p.rules.length) rest + (ca (fun p => p.rules.length) s.comms + ca lJ s.pols) : Nat) : Int) = tot) (h0 : 0 ≤ a), Ev G ⟨Nu, ⟨(43, .sl 2 (l.map PathL.enc)) :: (44, .int .i64 ln) :: (45, .int .i64 n) :: (3, .int .i64 a) :: (1, .ref 65 1 0) :: T, (65, some (1, .cells s.enc)) :: H, c⟩, [.t 2], 0⟩ (⟨.int .i64 tot, []⟩)
 | [], done, a, T, H, c, n, e, hn, ha, h0 => by
  have hd : l.length = done.length := by simp [e]
  have hll : (l.map PathL.enc).length = l.length := by simp
  have m1 : (s.comms.map ComL.enc).length = s.comms.length := by simp
  refine evl ?_
  repeat' (first | refine ae ?_ | (refine ab ?_ ?_ <;> intro h))
  refine am [56, 57, 58, 3, 1] [65] ?_
  rw [m1]
  exact ri s.comms s rfl tot htot hsz (by omega) _ rfl s.comms [] a _ _ _ 0 rfl rfl (by simp only [ca] at ha; omega) h0
 | x :: r, done, a, T, H, c, n, e, hn, ha, h0 => by
  have hd : l.length = done.length + (r.length + 1) := by simp [e]
  have hll : (l.map PathL.enc).length = l.length := by simp
  have hx : (l.map PathL.enc)[n.toNat]? = some (PathL.enc x) := by simp [e, hn]
  have m1 : (x.rules.map PathR.enc).length = x.rules.length := by simp
  simp only [ca] at ha
  refine evl ?_
  repeat' (first | refine ae ?_ | (refine ab ?_ ?_ <;> intro h))
  refine am [43, 44, 45, 3, 1] [65] ?_; exact rj l s hl1 tot htot hsz hl ln hln r (done ++ [x]) (a + ((x.rules.map PathR.enc).length : Int)) _ _ _ (n + 1) (by simp [e]) (by simp [hn] <;> omega) (by rw [← ha, m1]; omega) (by omega)
theorem u7 (l : List PList) (s : PSet) (hl1 : s.prefixes = l) (tot : Int) (htot : tot < 2 ^ 40) (hsz : s.pols.length < 2 ^ 40 ∧ s.comms.length < 2 ^ 40 ∧ s.paths.length < 2 ^ 40) (hl : l.length < 2 ^ 40) (ln : Int) (hln : ln = l.length) : ∀ (rest done : List PList) (a : Int) (T : List (Nat × AV)) (H : aq) (c : Nat) (n : Int) (e : l = done ++ rest) (hn : n = done.length) (ha : a + ((ca (fun p => p.rules.length) rest + (ca (fun p => p.rules.length) s.paths + (ca (fun p => p.rules.length) s.comms + ca lJ s.pols)) : Nat) : Int) = tot) (h0 : 0 ≤ a), Ev G ⟨Qp, ⟨(30, .sl 2 (l.map PList.enc)) :: (31, .int .i64 ln) :: (32, .int .i64 n) :: (3, .int .i64 a) :: (1, .ref 65 1 0) :: T, (65, some (1, .cells s.enc)) :: H, c⟩, [.t 2], 0⟩ (⟨.int .i64 tot, []⟩)
 | [], done, a, T, H, c, n, e, hn, ha, h0 => by
  have hd : l.length = done.length := by simp [e]
  have hll : (l.map PList.enc).length = l.length := by simp
  have m1 : (s.paths.map PathL.enc).length = s.paths.length := by simp
  refine evl ?_
  repeat' (first | refine ae ?_ | (refine ab ?_ ?_ <;> intro h))
  refine am [43, 44, 45, 3, 1] [65] ?_
  rw [m1]
  exact rj s.paths s rfl tot htot hsz (by omega) _ rfl s.paths [] a _ _ _ 0 rfl rfl (by simp only [ca] at ha; omega) h0
 | x :: r, done, a, T, H, c, n, e, hn, ha, h0 => by
  have hd : l.length = done.length + (r.length + 1) := by simp [e]
  have hll : (l.map PList.enc).length = l.length := by simp
  have hx : (l.map PList.enc)[n.toNat]? = some (PList.enc x) := by simp [e, hn]
  have m1 : (x.rules.map RuleP.enc).length = x.rules.length := by simp
  simp only [ca] at ha
  refine evl ?_
  repeat' (first | refine ae ?_ | (refine ab ?_ ?_ <;> intro h))
  refine am [30, 31, 32, 3, 1] [65] ?_; exact u7 l s hl1 tot htot hsz hl ln hln r (done ++ [x]) (a + ((x.rules.map RuleP.enc).length : Int)) _ _ _ (n + 1) (by simp [e]) (by simp [hn] <;> omega) (by rw [← ha, m1]; omega) (by omega)
theorem wL (s : PSet) (hs : gz s < 2 ^ 40) : ax G 435 [.agg s.enc] [] ⟨.int .i64 (gz s : Nat), []⟩ := by
 have m1 : (s.prefixes.map PList.enc).length = s.prefixes.length := by simp
 have m2 : (s.paths.map PathL.enc).length = s.paths.length := by simp
 have m3 : (s.comms.map ComL.enc).length = s.comms.length := by simp
 have m4 : (s.pols.map Pol.enc).length = s.pols.length := by simp
 have hz : gz s = s.prefixes.length + s.paths.length + s.comms.length + s.pols.length + ca (fun p => p.rules.length) s.prefixes + ca (fun p => p.rules.length) s.paths + ca (fun p => p.rules.length) s.comms + ca lJ s.pols := rfl
 refine aa (F := f435) rfl rfl (ah 300 _ _ _ _ ?_)
 repeat' (first | refine ae ?_ | (refine ab ?_ ?_ <;> intro h))
 refine am [30, 31, 32, 3, 1] [65] ?_
 rw [m1, m2, m3, m4]
 exact u7 s.prefixes s rfl (gz s : Nat) (by omega) (by omega) (by omega) _ rfl s.prefixes [] _ _ _ _ 0 rfl rfl (by rw [hz]; omega) (by omega)
end Go.AM.IR
namespace Go.AM.IR
def md (c : RConf) : List PeerC → Bool
 | [] => decide (((gz c.pv.pols : Nat) : Int) ≤ 400)
 | x :: r => if 100 < x.imp.length then false else if 100 < x.exp.length then false else md c r
def me (c : RConf) : List Red → Bool
 | [] => md c c.pv.peers
 | x :: r => if 100 < x.pol.length then false else me c r
def gg (c : RConf) : Bool :=
 if 100 < c.name.length then false else if 24 < c.ls.ifs.length then false else if 24 < c.ls.ranges.length then false else
 if 24 < c.redist.length then false else if 24 < c.stat.length then false else if 24 < c.dists.length then false else
 if 24 < c.pv.peers.length then false else if 40 < c.pv.nets.length then false else me c c.redist
def RConf.fit (c : RConf) : Prop := gz c.pv.pols < 2 ^ 40 ∧ c.redist.length < 2 ^ 40 ∧ c.pv.peers.length < 2 ^ 40
theorem sd (l : List PeerC) (q : RConf) (hl1 : q.pv.peers = l) (hz : gz q.pv.pols < 2 ^ 40) (hl : l.length < 2 ^ 40) (ln : Int) (hln : ln = l.length) : ∀ (rest done : List PeerC)  (T : List (Nat × AV)) (H : aq) (c : Nat) (n : Int) (e : l = done ++ rest) (hn : n = done.length) , Ev G ⟨NI, ⟨(70, .sl 11 (l.map PeerC.enc)) :: (71, .int .i64 ln) :: (72, .int .i64 n) :: (1, .ref 65 1 0) :: T, (65, some (1, .cells q.enc)) :: H, c⟩, [.t 2], 0⟩ (⟨.bool (md q rest), []⟩)
 | [], done,  T, H, c, n, e, hn => by
  have hd : l.length = done.length := by simp [e]
  have hll : (l.map PeerC.enc).length = l.length := by simp
  have hs : ax G 435 [.agg [.sl 2 (q.pv.pols.prefixes.map PList.enc), .sl 2 (q.pv.pols.paths.map PathL.enc), .sl 2 (q.pv.pols.comms.map ComL.enc), .sl 3 (q.pv.pols.pols.map Pol.enc)]] [] ⟨.int .i64 (gz q.pv.pols : Nat), []⟩ := wL q.pv.pols hz
  refine evl ?_
  repeat' (first | refine ae ?_ | (refine ab ?_ ?_ <;> intro h))
  refine ag ?_; rfl
 | x :: r, done,  T, H, c, n, e, hn => by
  have hd : l.length = done.length + (r.length + 1) := by simp [e]
  have hll : (l.map PeerC.enc).length = l.length := by simp
  have hx : (l.map PeerC.enc)[n.toNat]? = some (PeerC.enc x) := by simp [e, hn]
  have hy : (q.pv.peers.map PeerC.enc)[n.toNat]? = some x.enc := by rw [hl1]; exact hx
  have hm : (q.pv.peers.map PeerC.enc).length = l.length := by simp [hl1]
  refine evl ?_
  repeat' (first | refine ae ?_ | (refine ab ?_ ?_ <;> intro h))
  all_goals try (refine ag ?_; first | rfl | (simp [md, Bool.cond_eq_ite, *]; done) | (simp [md, Bool.cond_eq_ite, *]; omega) | (unfold md; repeat' split; all_goals first | rfl | (exfalso; omega) | (simp_all; done) | (simp_all; omega)))
  rw [show md q (x :: r) = md q r from by rw [md, if_neg (by omega), if_neg (by omega)]]
  refine am [70, 71, 72, 1] [65] ?_; exact sd l q hl1 hz hl ln hln r (done ++ [x])  _ _ _ (n + 1) (by simp [e]) (by simp [hn] <;> omega)
theorem sg (l : List Red) (q : RConf) (hl1 : q.redist = l) (hz : q.fit) (hl : l.length < 2 ^ 40) (ln : Int) (hln : ln = l.length) : ∀ (rest done : List Red)  (T : List (Nat × AV)) (H : aq) (c : Nat) (n : Int) (e : l = done ++ rest) (hn : n = done.length) , Ev G ⟨NJ, ⟨(54, .sl 5 (l.map Red.enc)) :: (55, .int .i64 ln) :: (56, .int .i64 n) :: (1, .ref 65 1 0) :: T, (65, some (1, .cells q.enc)) :: H, c⟩, [.t 2], 0⟩ (⟨.bool (me q rest), []⟩)
 | [], done,  T, H, c, n, e, hn => by
  have hd : l.length = done.length := by simp [e]
  have hll : (l.map Red.enc).length = l.length := by simp
  have m1 : (q.pv.peers.map PeerC.enc).length = q.pv.peers.length := by simp
  refine evl ?_
  repeat' (first | refine ae ?_ | (refine ab ?_ ?_ <;> intro h))
  refine am [70, 71, 72, 1] [65] ?_
  rw [m1]
  exact sd q.pv.peers q rfl hz.1 hz.2.2 _ rfl q.pv.peers [] _ _ _ 0 rfl rfl
 | x :: r, done,  T, H, c, n, e, hn => by
  have hd : l.length = done.length + (r.length + 1) := by simp [e]
  have hll : (l.map Red.enc).length = l.length := by simp
  have hx : (l.map Red.enc)[n.toNat]? = some (Red.enc x) := by simp [e, hn]
  have hy : (q.redist.map Red.enc)[n.toNat]? = some x.enc := by rw [hl1]; exact hx
  have hm : (q.redist.map Red.enc).length = l.length := by simp [hl1]
  refine evl ?_
  repeat' (first | refine ae ?_ | (refine ab ?_ ?_ <;> intro h))
  all_goals try (refine ag ?_; first | rfl | (simp [me, Bool.cond_eq_ite, *]; done) | (simp [me, Bool.cond_eq_ite, *]; omega) | (unfold me; repeat' split; all_goals first | rfl | (exfalso; omega) | (simp_all; done) | (simp_all; omega)))
  rw [show me q (x :: r) = me q r from by rw [me, if_neg (by omega)]]
  refine am [54, 55, 56, 1] [65] ?_; exact sg l q hl1 hz hl ln hln r (done ++ [x])  _ _ _ (n + 1) (by simp [e]) (by simp [hn] <;> omega)
theorem zt (q : RConf) (hz : q.fit) : ax G 395 [.agg q.enc] [] ⟨.bool (gg q), []⟩ := by
 have m1 : (q.ls.ifs.map Ifc.enc).length = q.ls.ifs.length := by simp
 have m2 : (q.ls.ranges.map ARange.enc).length = q.ls.ranges.length := by simp
 have m3 : (q.redist.map Red.enc).length = q.redist.length := by simp
 have m4 : (q.stat.map Stat.enc).length = q.stat.length := by simp
 have m5 : (q.dists.map gj).length = q.dists.length := by simp
 have m6 : (q.pv.peers.map PeerC.enc).length = q.pv.peers.length := by simp
 have m7 : (q.pv.nets.map Pfx.enc).length = q.pv.nets.length := by simp
 by_cases c1 : 100 < q.name.length
 ·refine aa (F := f395) rfl rfl (ah 300 _ _ _ _ ?_)
  repeat' (first | refine ae ?_ | (refine ab ?_ ?_ <;> intro h))
  refine ag ?_; rw [gg, if_pos c1]
 by_cases c2 : 24 < q.ls.ifs.length
 ·refine aa (F := f395) rfl rfl (ah 300 _ _ _ _ ?_)
  repeat' (first | refine ae ?_ | (refine ab ?_ ?_ <;> intro h))
  refine ag ?_; rw [gg, if_neg c1, if_pos c2]
 by_cases c3 : 24 < q.ls.ranges.length
 ·refine aa (F := f395) rfl rfl (ah 300 _ _ _ _ ?_)
  repeat' (first | refine ae ?_ | (refine ab ?_ ?_ <;> intro h))
  refine ag ?_; rw [gg, if_neg c1, if_neg c2, if_pos c3]
 by_cases c4 : 24 < q.redist.length
 ·refine aa (F := f395) rfl rfl (ah 300 _ _ _ _ ?_)
  repeat' (first | refine ae ?_ | (refine ab ?_ ?_ <;> intro h))
  refine ag ?_; rw [gg, if_neg c1, if_neg c2, if_neg c3, if_pos c4]
 by_cases c5 : 24 < q.stat.length
 ·refine aa (F := f395) rfl rfl (ah 300 _ _ _ _ ?_)
  repeat' (first | refine ae ?_ | (refine ab ?_ ?_ <;> intro h))
  refine ag ?_; rw [gg, if_neg c1, if_neg c2, if_neg c3, if_neg c4, if_pos c5]
 by_cases c6 : 24 < q.dists.length
 ·refine aa (F := f395) rfl rfl (ah 300 _ _ _ _ ?_)
  repeat' (first | refine ae ?_ | (refine ab ?_ ?_ <;> intro h))
  refine ag ?_; rw [gg, if_neg c1, if_neg c2, if_neg c3, if_neg c4, if_neg c5, if_pos c6]
 by_cases c7 : 24 < q.pv.peers.length
 ·refine aa (F := f395) rfl rfl (ah 300 _ _ _ _ ?_)
  repeat' (first | refine ae ?_ | (refine ab ?_ ?_ <;> intro h))
  refine ag ?_; rw [gg, if_neg c1, if_neg c2, if_neg c3, if_neg c4, if_neg c5, if_neg c6, if_pos c7]
 by_cases c8 : 40 < q.pv.nets.length
 ·refine aa (F := f395) rfl rfl (ah 300 _ _ _ _ ?_)
  repeat' (first | refine ae ?_ | (refine ab ?_ ?_ <;> intro h))
  refine ag ?_; rw [gg, if_neg c1, if_neg c2, if_neg c3, if_neg c4, if_neg c5, if_neg c6, if_neg c7, if_pos c8]
 rw [gg, if_neg c1, if_neg c2, if_neg c3, if_neg c4, if_neg c5, if_neg c6, if_neg c7, if_neg c8]
 refine aa (F := f395) rfl rfl (ah 300 _ _ _ _ ?_)
 repeat' (first | refine ae ?_ | (refine ab ?_ ?_ <;> intro h))
 refine am [54, 55, 56, 1] [65] ?_
 rw [m3]
 exact sg q.redist q rfl hz hz.2.1 _ rfl q.redist [] _ _ _ 0 rfl rfl
def zu : List Lnk → Bool
 | [] => true
 | x :: r => if 20 < x.ends.length then false else zu r
def jM (ls : List Lnk) : List RConf → Bool
 | [] => zu ls
 | x :: r => if gg x then jM ls r else false
theorem se (l : List Lnk) (t : Topo) (hl1 : t.links = l) (hl : l.length < 2 ^ 40) (ln : Int) (hln : ln = l.length) : ∀ (rest done : List Lnk)  (T : List (Nat × AV)) (H : aq) (c : Nat) (n : Int) (e : l = done ++ rest) (hn : n = done.length) , Ev G ⟨NV, ⟨(54, .sl 2 (l.map Lnk.enc)) :: (55, .int .i64 ln) :: (56, .int .i64 n) :: (1, .ref 65 1 0) :: T, (65, some (1, .cells t.enc)) :: H, c⟩, [.t 2], 0⟩ (⟨.bool (zu rest), []⟩)
 | [], done,  T, H, c, n, e, hn => by
  have hd : l.length = done.length := by simp [e]
  have hll : (l.map Lnk.enc).length = l.length := by simp
  refine evl ?_
  repeat' (first | refine ae ?_ | (refine ab ?_ ?_ <;> intro h))
  refine ag ?_; rfl
 | x :: r, done,  T, H, c, n, e, hn => by
  have hd : l.length = done.length + (r.length + 1) := by simp [e]
  have hll : (l.map Lnk.enc).length = l.length := by simp
  have hx : (l.map Lnk.enc)[n.toNat]? = some (Lnk.enc x) := by simp [e, hn]
  have hy : (t.links.map Lnk.enc)[n.toNat]? = some x.enc := by rw [hl1]; exact hx
  have hm : (t.links.map Lnk.enc).length = l.length := by simp [hl1]
  have m1 : (x.ends.map LEnd.enc).length = x.ends.length := by simp
  by_cases h : 20 < x.ends.length
  ·refine evl ?_
   repeat' (first | refine ae ?_ | (refine ab ?_ ?_ <;> intro h))
   refine ag ?_; rw [zu, if_pos h]
  ·rw [zu, if_neg h]
   refine evl ?_
   repeat' (first | refine ae ?_ | (refine ab ?_ ?_ <;> intro h))
   refine am [54, 55, 56, 1] [65] ?_; exact se l t hl1 hl ln hln r (done ++ [x])  _ _ _ (n + 1) (by simp [e]) (by simp [hn] <;> omega)
theorem iW (l : List RConf) (t : Topo) (hl1 : t.routers = l) (hf : ∀ x ∈ l, x.fit) (hk : t.links.length < 2 ^ 40) (hl : l.length < 2 ^ 40) (ln : Int) (hln : ln = l.length) : ∀ (rest done : List RConf)  (T : List (Nat × AV)) (H : aq) (c : Nat) (n : Int) (e : l = done ++ rest) (hn : n = done.length) , Ev G ⟨Qu, ⟨(40, .sl 25 (l.map RConf.enc)) :: (41, .int .i64 ln) :: (42, .int .i64 n) :: (1, .ref 65 1 0) :: T, (65, some (1, .cells t.enc)) :: H, c⟩, [.t 2], 0⟩ (⟨.bool (jM t.links rest), []⟩)
 | [], done,  T, H, c, n, e, hn => by
  have hd : l.length = done.length := by simp [e]
  have hll : (l.map RConf.enc).length = l.length := by simp
  have m1 : (t.links.map Lnk.enc).length = t.links.length := by simp
  refine evl ?_
  repeat' (first | refine ae ?_ | (refine ab ?_ ?_ <;> intro h))
  refine am [54, 55, 56, 1] [65] ?_
  rw [m1]
  exact se t.links t rfl hk _ rfl t.links [] _ _ _ 0 rfl rfl
 | x :: r, done,  T, H, c, n, e, hn => by
  have hd : l.length = done.length + (r.length + 1) := by simp [e]
  have hll : (l.map RConf.enc).length = l.length := by simp
  have hx : (l.map RConf.enc)[n.toNat]? = some (RConf.enc x) := by simp [e, hn]
  have hy : (t.routers.map RConf.enc)[n.toNat]? = some x.enc := by rw [hl1]; exact hx
  have hm : (t.routers.map RConf.enc).length = l.length := by simp [hl1]
  have h1 := zt x (hf x (by simp [e]))
  by_cases h : gg x = true
  ·rw [h] at h1
   rw [jM, if_pos h]
   refine evl ?_
   repeat' (first | refine ae ?_ | (refine ab ?_ ?_ <;> intro h))
   refine am [40, 41, 42, 1] [65] ?_; exact iW l t hl1 hf hk hl ln hln r (done ++ [x])  _ _ _ (n + 1) (by simp [e]) (by simp [hn] <;> omega)
  ·rw [Bool.not_eq_true] at h
   rw [h] at h1
   refine evl ?_
   repeat' (first | refine ae ?_ | (refine ab ?_ ?_ <;> intro h))
   refine ag ?_; rw [jM, h]; rfl
def Topo.fit (t : Topo) : Prop := t.routers.length < 2 ^ 40 ∧ t.links.length < 2 ^ 40 ∧ ∀ x ∈ t.routers, x.fit
theorem pt (t : Topo) (ht : t.fit) : ∃ b, ax G 377 [.agg t.enc] [] ⟨.bool b, []⟩ ∧ (b = true → t.routers.length ≤ 40 ∧ jM t.links t.routers = true) := by
 have m1 : (t.routers.map RConf.enc).length = t.routers.length := by simp
 have m2 : (t.links.map Lnk.enc).length = t.links.length := by simp
 by_cases c1 : 12 < t.routers.length
 ·by_cases c2 : t.routers.length ≤ 32
  ·refine ⟨false, ?_, (fun h => by cases h)⟩
   refine aa (F := f377) rfl rfl (ah 300 _ _ _ _ ?_)
   repeat' (first | refine ae ?_ | (refine ab ?_ ?_ <;> intro h))
   refine ag ?_; rfl
  ·by_cases c3 : 24 < t.links.length
   ·by_cases c4 : t.links.length ≤ 64
    ·refine ⟨false, ?_, (fun h => by cases h)⟩
     refine aa (F := f377) rfl rfl (ah 300 _ _ _ _ ?_)
     repeat' (first | refine ae ?_ | (refine ab ?_ ?_ <;> intro h))
     refine ag ?_; rfl
    ·by_cases c5 : 40 < t.routers.length
     ·refine ⟨false, ?_, (fun h => by cases h)⟩
      refine aa (F := f377) rfl rfl (ah 300 _ _ _ _ ?_)
      repeat' (first | refine ae ?_ | (refine ab ?_ ?_ <;> intro h))
      refine ag ?_; rfl
     ·by_cases c6 : 80 < t.links.length
      ·refine ⟨false, ?_, (fun h => by cases h)⟩
       refine aa (F := f377) rfl rfl (ah 300 _ _ _ _ ?_)
       repeat' (first | refine ae ?_ | (refine ab ?_ ?_ <;> intro h))
       refine ag ?_; rfl
      ·refine ⟨jM t.links t.routers, ?_, fun hb => ⟨by omega, hb⟩⟩
       refine aa (F := f377) rfl rfl (ah 300 _ _ _ _ ?_)
       repeat' (first | refine ae ?_ | (refine ab ?_ ?_ <;> intro h))
       refine am [40, 41, 42, 1] [65] ?_
       rw [m1]
       exact iW t.routers t rfl ht.2.2 ht.2.1 ht.1 _ rfl t.routers [] _ _ _ 0 rfl rfl
   ·by_cases c5 : 40 < t.routers.length
    ·refine ⟨false, ?_, (fun h => by cases h)⟩
     refine aa (F := f377) rfl rfl (ah 300 _ _ _ _ ?_)
     repeat' (first | refine ae ?_ | (refine ab ?_ ?_ <;> intro h))
     refine ag ?_; rfl
    ·refine ⟨jM t.links t.routers, ?_, fun hb => ⟨by omega, hb⟩⟩
     refine aa (F := f377) rfl rfl (ah 300 _ _ _ _ ?_)
     repeat' (first | refine ae ?_ | (refine ab ?_ ?_ <;> intro h))
     refine am [40, 41, 42, 1] [65] ?_
     rw [m1]
     exact iW t.routers t rfl ht.2.2 ht.2.1 ht.1 _ rfl t.routers [] _ _ _ 0 rfl rfl
 ·by_cases c3 : 24 < t.links.length
  ·by_cases c4 : t.links.length ≤ 64
   ·refine ⟨false, ?_, (fun h => by cases h)⟩
    refine aa (F := f377) rfl rfl (ah 300 _ _ _ _ ?_)
    repeat' (first | refine ae ?_ | (refine ab ?_ ?_ <;> intro h))
    refine ag ?_; rfl
   ·by_cases c6 : 80 < t.links.length
    ·refine ⟨false, ?_, (fun h => by cases h)⟩
     refine aa (F := f377) rfl rfl (ah 300 _ _ _ _ ?_)
     repeat' (first | refine ae ?_ | (refine ab ?_ ?_ <;> intro h))
     refine ag ?_; rfl
    ·refine ⟨jM t.links t.routers, ?_, fun hb => ⟨by omega, hb⟩⟩
     refine aa (F := f377) rfl rfl (ah 300 _ _ _ _ ?_)
     repeat' (first | refine ae ?_ | (refine ab ?_ ?_ <;> intro h))
     refine am [40, 41, 42, 1] [65] ?_
     rw [m1]
     exact iW t.routers t rfl ht.2.2 ht.2.1 ht.1 _ rfl t.routers [] _ _ _ 0 rfl rfl
  ·refine ⟨jM t.links t.routers, ?_, fun hb => ⟨by omega, hb⟩⟩
   refine aa (F := f377) rfl rfl (ah 300 _ _ _ _ ?_)
   repeat' (first | refine ae ?_ | (refine ab ?_ ?_ <;> intro h))
   refine am [40, 41, 42, 1] [65] ?_
   rw [m1]
   exact iW t.routers t rfl ht.2.2 ht.2.1 ht.1 _ rfl t.routers [] _ _ _ 0 rfl rfl
theorem si {c : RConf} (h : gg c = true) : c.pv.peers.length ≤ 24 := by
 unfold gg at h
 repeat' split at h
 all_goals first | (cases h; done) | omega
theorem qe {ls : List Lnk} : ∀ {l : List RConf}, jM ls l = true → ∀ x ∈ l, gg x = true
 | y :: r, h, x, hx => by
  rw [jM] at h
  split at h
  ·rename_i hy
   rcases List.mem_cons.1 hx with rfl | hx
   ·exact hy
   ·exact qe h x hx
  ·cases h
end Go.AM.IR
namespace Go.AM.IR
theorem j3 {α : Type} {f : α → Nat} {enc : α → List AV} (h : ∀ x, f x + 1 ≤ bkL (enc x)) : ∀ l : List α, l.length + ca f l ≤ cH (l.map enc)
 | [] => by simp [ca]
 | x :: r => by
  have := j3 h r
  have := h x
  rw [List.map_cons, cH, List.length_cons, ca]; omega
theorem bw {α : Type} {enc : α → List AV} (h : ∀ x, 1 ≤ bkL (enc x)) (l : List α) : l.length ≤ cH (l.map enc) := by
 have := j3 (f := fun _ => 0) (enc := enc) (fun x => by have := h x; omega) l
 omega
theorem fJ {α : Type} {enc : α → List AV} {x : α} : ∀ {l : List α}, x ∈ l → bkL (enc x) ≤ cH (l.map enc)
 | y :: r, h => by
  rw [List.map_cons, cH]
  rcases List.mem_cons.1 h with rfl | h
  ·omega
  ·have := fJ (enc := enc) h; omega
theorem Oh (x : Mat) : 0 + 1 ≤ bkL x.enc := by simp only [Mat.enc, bkL, AV.bk]; omega
theorem JV (x : Actn) : 0 + 1 ≤ bkL x.enc := by simp only [Actn.enc, bkL, AV.bk]; omega
theorem Od (x : Trm) : pD x + 1 ≤ bkL x.enc := by
 have h1 := bw (fun x => by have := Oh x; omega) x.mats
 have h2 := bw (fun x => by have := JV x; omega) x.acts
 simp only [Trm.enc, bkL, AV.bk, pD]; omega
theorem Og (x : Pol) : lJ x + 1 ≤ bkL x.enc := by
 have h1 := j3 Od x.terms
 simp only [Pol.enc, bkL, AV.bk, lJ]; omega
theorem BX (x : RuleP) : 1 ≤ bkL x.enc := by simp only [RuleP.enc, bkL, AV.bk]; omega
theorem Cd (x : PathR) : 1 ≤ bkL x.enc := by simp only [PathR.enc, bkL, AV.bk]; omega
theorem JT (x : ComR) : 1 ≤ bkL x.enc := by simp only [ComR.enc, bkL, AV.bk]; omega
theorem Cg (x : PList) : x.rules.length + 1 ≤ bkL x.enc := by
 have h1 := bw BX x.rules
 simp only [PList.enc, bkL, AV.bk]; omega
theorem Ce (x : PathL) : x.rules.length + 1 ≤ bkL x.enc := by
 have h1 := bw Cd x.rules
 simp only [PathL.enc, bkL, AV.bk]; omega
theorem JU (x : ComL) : x.rules.length + 1 ≤ bkL x.enc := by
 have h1 := bw JT x.rules
 simp only [ComL.enc, bkL, AV.bk]; omega
theorem acS (s : PSet) : gz s ≤ bkL s.enc := by
 have h1 := j3 Cg s.prefixes
 have h2 := j3 Ce s.paths
 have h3 := j3 JU s.comms
 have h4 := j3 Og s.pols
 simp only [PSet.enc, bkL, AV.bk, gz]; omega
theorem Oe (x : Red) : 1 ≤ bkL x.enc := by simp only [Red.enc, bkL, AV.bk]; omega
theorem BZ (x : PeerC) : 1 ≤ bkL x.enc := by simp only [PeerC.enc, bkL, AV.bk]; omega
theorem Ol (x : Lnk) : 1 ≤ bkL x.enc := by simp only [Lnk.enc, bkL, AV.bk]; omega
theorem qN (c : RConf) : gz c.pv.pols + c.redist.length + c.pv.peers.length + 1 ≤ bkL c.enc := by
 have h1 := acS c.pv.pols
 have h2 := bw Oe c.redist
 have h3 := bw BZ c.pv.peers
 simp only [PSet.enc, bkL, AV.bk] at h1
 simp only [RConf.enc, bkL, AV.bk]; omega
theorem zo (t : Topo) (h : bkL t.enc ≤ 1048576) : t.fit := by
 have h1 := bw (enc := RConf.enc) (fun x => by have := qN x; omega) t.routers
 have h2 := bw Ol t.links
 simp only [Topo.enc, bkL, AV.bk] at h
 refine ⟨by omega, by omega, fun x hx => ?_⟩
 have h3 := fJ (enc := RConf.enc) hx
 have h4 := qN x
 exact ⟨by omega, by omega, by omega⟩
end Go.AM.IR
namespace Go.AM.IR
@[simp] theorem OZ : ∀ l : List Int, aG (l.map cu) = true
 | [] => rfl
 | x :: r => by simp only [List.map_cons, aG, OZ r]; simp [cu, aH, AV.pure]
def mz : List Int → List Int → Bool
 | _, [] => false
 | d, x :: r => if x ∈ d then true else mz (d ++ [x]) r
theorem QX (l : List Int) (hl : l.length < 2 ^ 40) (i : Nat) (x : Int) (hi : i < l.length) (hx : l[i]? = some x) (ln6 : Int) (R : Ret)
  (go : ¬ x ∈ l.take i → ∀ (T : List (Nat × AV)) (H : aq) (c : Nat), Ev G ⟨wc, ⟨(0, .sl 1 (l.map cu)) :: (6, .int .i64 ln6) :: (7, .int .i64 ((i : Int) + 1)) :: T, H, c⟩, [.t 2], 0⟩ R)
  (hR : x ∈ l.take i → R = ⟨.bool true, []⟩) : ∀ (f k : Nat) (T : List (Nat × AV)) (H : aq) (c : Nat) (hk : k + f = i) (hd : ¬ x ∈ l.take k),
  Ev G ⟨ND, ⟨(11, .int .i64 (k : Int)) :: (0, .sl 1 (l.map cu)) :: (3, .int .i64 (i : Int)) :: (6, .int .i64 ln6) :: (7, .int .i64 (i : Int)) :: (10, .int .i64 (i : Int)) :: T, H, c⟩, [.t 2], 0⟩ R
 | 0, k, T, H, c, hk, hd => by
  obtain rfl : k = i := by omega
  refine evl ?_
  repeat' (first | refine ae ?_ | (refine ab ?_ ?_ <;> intro h))
  refine am [0, 6, 7] [] ?_
  exact go hd _ _ _
 | f + 1, k, T, H, c, hk, hd => by
  have hkl : k < l.length := by omega
  obtain ⟨y, hy⟩ : ∃ y, l[k]? = some y := ⟨l[k], List.getElem?_eq_getElem hkl⟩
  have ht : l.take (k + 1) = l.take k ++ [y] := by rw [List.take_add_one, hy]; rfl
  have hx1 : (l.map cu)[((i : Nat) : Int).toNat]? = some (cu x) := by simp [hx]
  have hy1 : (l.map cu)[((k : Nat) : Int).toNat]? = some (cu y) := by simp [hy]
  have hll : (l.map cu).length = l.length := by simp
  by_cases h : x = y
  ·subst h
   rw [hR (by
    have : x ∈ l.take (k + 1) := by rw [ht]; simp
    exact List.mem_of_mem_take (i := k + 1) (by rw [List.take_take, Nat.min_eq_left (by omega)]; exact this))]
   refine evl ?_
   repeat' (first | refine ae ?_ | (refine ab ?_ ?_ <;> intro h))
   refine ag ?_; rfl
  ·refine evl ?_
   repeat' (first | refine ae ?_ | (refine ab ?_ ?_ <;> intro h))
   refine am [11, 0, 3, 6, 7, 10] [] ?_
   exact QX l hl i x hi hx ln6 R go hR f (k + 1) _ _ _ (by omega) (by rw [ht]; simp [hd, h])
theorem DF (l : List Int)  (hl : l.length < 2 ^ 40) (ln : Int) (hln : ln = l.length) : ∀ (rest done : List Int)  (T : List (Nat × AV)) (H : aq) (c : Nat) (n : Int) (e : l = done ++ rest) (hn : n = done.length) , Ev G ⟨wc, ⟨(0, .sl 1 (l.map cu)) :: (6, .int .i64 ln) :: (7, .int .i64 n) :: T, H, c⟩, [.t 2], 0⟩ (⟨.bool (mz done rest), []⟩)
 | [], done,  T, H, c, n, e, hn => by
  have hd : l.length = done.length := by simp [e]
  have hll : (l.map cu).length = l.length := by simp
  refine evl ?_
  repeat' (first | refine ae ?_ | (refine ab ?_ ?_ <;> intro h))
  refine ag ?_; rfl
 | x :: r, done,  T, H, c, n, e, hn => by
  have hd : l.length = done.length + (r.length + 1) := by simp [e]
  have hll : (l.map cu).length = l.length := by simp
  have hx : (l.map cu)[n.toNat]? = some (cu x) := by simp [e, hn]
  have hg : l[done.length]? = some x := by simp [e]
  have ht : l.take done.length = done := by simp [e]
  rw [hn]
  refine evl ?_
  repeat' (first | refine ae ?_ | (refine ab ?_ ?_ <;> intro h))
  refine am [11, 0, 3, 6, 7, 10] [] ?_
  refine QX l hl done.length x (by omega) hg ln _ (fun h T H c => ?_) (fun h => ?_) done.length 0 _ _ _ (by omega) (by simp)
  ·rw [ht] at h
   rw [show mz done (x :: r) = mz (done ++ [x]) r from by rw [mz, if_neg h]]
   exact DF l hl ln hln r (done ++ [x]) T H c (done.length + 1) (by simp [e]) (by simp)
  ·rw [ht] at h
   rw [mz, if_pos h]
theorem CU (l : List Int) (hl : l.length < 2 ^ 40) : ax G 399 [.sl 1 (l.map cu)] [] ⟨.bool (mz [] l), []⟩ := by
 have hll : (l.map cu).length = l.length := by simp
 refine aa (F := f399) rfl rfl (ah 300 _ _ _ _ ?_)
 repeat' (first | refine ae ?_ | (refine ab ?_ ?_ <;> intro h))
 refine am [0, 6, 7] [] ?_
 rw [hll]
 exact DF l hl _ rfl l [] _ _ _ 0 rfl rfl
def bM : List RConf → List Int
 | [] => []
 | c :: r => c.ls.ifs.map Ifc.addr ++ bM r
theorem mD : ∀ a b : List RConf, bM (a ++ b) = bM a ++ bM b
 | [], b => rfl
 | c :: r, b => by simp [bM, mD r b]
theorem pB (l : List Ifc) (P7 : AV) (t : Topo) (y : RConf) (hlx : y.ls.ifs = l) (i ln8 : Int) (hi : 0 ≤ i ∧ i < t.routers.length) (hr : t.routers.length < 2 ^ 40) (hy : (t.routers.map RConf.enc)[i.toNat]? = some y.enc) (o0 : List Int) (ho0 : o0.length + l.length < 2 ^ 30) (R : Ret) (go : ∀ (T : List (Nat × AV)) (H : aq) (c g : Nat), Ev G ⟨wb, ⟨(7, P7) :: (8, .int .i64 ln8) :: (9, .int .i64 (i + 1)) :: (3, .vs 200 g (o0 ++ l.map Ifc.addr).length) :: (1, .ref 65 1 0) :: T, (200, some (g, .vec 1 ((o0 ++ l.map Ifc.addr).map cu))) :: (65, some (1, .cells t.enc)) :: H, c⟩, [.t 2], 0⟩ R) (hl : l.length < 2 ^ 40) (ln : Int) (hln : ln = l.length) : ∀ (rest done : List Ifc) (out : List Int) (es : List (List AV)) (m g : Nat) (T : List (Nat × AV)) (H : aq) (c : Nat) (n : Int) (e : l = done ++ rest) (hn : n = done.length) (hes : es = out.map cu) (hm : m = out.length) (ho : out = o0 ++ done.map Ifc.addr), Ev G ⟨NC, ⟨(18, .sl 9 (l.map Ifc.enc)) :: (19, .int .i64 ln) :: (20, .int .i64 n) :: (3, .vs 200 g m) :: (1, .ref 65 1 0) :: (4, .int .i64 i) :: (8, .int .i64 ln8) :: (9, .int .i64 i) :: (7, P7) :: T, (200, some (g, .vec 1 es)) :: (65, some (1, .cells t.enc)) :: H, c⟩, [.t 2], 0⟩ R
 | [], done, out, es, m, g, T, H, c, n, e, hn, hes, hm, ho => by
  have hd : l.length = done.length := by simp [e]
  have hll : (l.map Ifc.enc).length = l.length := by simp
  have hrl : (t.routers.map RConf.enc).length = t.routers.length := by simp
  obtain rfl : l = done := by simp [e]
  subst hes hm ho
  refine evl ?_
  repeat' (first | refine ae ?_ | (refine ab ?_ ?_ <;> intro h))
  refine am [7, 8, 9, 3, 1] [200, 65] ?_
  exact go _ _ _ _
 | x :: r, done, out, es, m, g, T, H, c, n, e, hn, hes, hm, ho => by
  have hd : l.length = done.length + (r.length + 1) := by simp [e]
  have hll : (l.map Ifc.enc).length = l.length := by simp
  have hx : (l.map Ifc.enc)[n.toNat]? = some (Ifc.enc x) := by simp [e, hn]
  have hrl : (t.routers.map RConf.enc).length = t.routers.length := by simp
  have hz : (y.ls.ifs.map Ifc.enc)[n.toNat]? = some x.enc := by rw [hlx]; exact hx
  have hzl : (y.ls.ifs.map Ifc.enc).length = l.length := by simp [hlx]
  have hol : out.length = o0.length + done.length := by simp [ho]
  subst hes hm
  refine evl ?_
  repeat' (first | refine ae ?_ | (refine ab ?_ ?_ <;> intro h))
  refine am [18, 19, 20, 3, 1, 4, 8, 9, 7] [200, 65] ?_; exact pB l P7 t y hlx i ln8 hi hr hy o0 ho0 R go hl ln hln r (done ++ [x]) (out ++ [x.addr]) (out.map cu ++ [cu x.addr]) (out.length + 1) _ _ _ _ (n + 1) (by simp [e]) (by simp [hn] <;> omega) (by simp) (by simp) (by simp [ho])
theorem py (l : List RConf) (t : Topo) (hl1 : t.routers = l) (hb : (bM l).length < 2 ^ 30) (hl : l.length < 2 ^ 40) (ln : Int) (hln : ln = l.length) : ∀ (rest done : List RConf) (out : List Int) (es : List (List AV)) (m g : Nat) (T : List (Nat × AV)) (H : aq) (c : Nat) (n : Int) (e : l = done ++ rest) (hn : n = done.length) (hes : es = out.map cu) (hm : m = out.length) (ho : out = bM done), Ev G ⟨wb, ⟨(7, .sl 25 (l.map RConf.enc)) :: (8, .int .i64 ln) :: (9, .int .i64 n) :: (3, .vs 200 g m) :: (1, .ref 65 1 0) :: T, (200, some (g, .vec 1 es)) :: (65, some (1, .cells t.enc)) :: H, c⟩, [.t 2], 0⟩ (⟨.vs 0 0 (bM l).length, [(false, .vec 1 ((bM l).map cu))]⟩)
 | [], done, out, es, m, g, T, H, c, n, e, hn, hes, hm, ho => by
  have hd : l.length = done.length := by simp [e]
  have hll : (l.map RConf.enc).length = l.length := by simp
  have hrl : (t.routers.map RConf.enc).length = t.routers.length := by simp
  obtain rfl : l = done := by simp [e]
  subst hes hm ho
  refine evl ?_
  repeat' (first | refine ae ?_ | (refine ab ?_ ?_ <;> intro h))
  refine uF 200 _ _ _ rfl rfl puL ?_
  rfl
 | x :: r, done, out, es, m, g, T, H, c, n, e, hn, hes, hm, ho => by
  have hd : l.length = done.length + (r.length + 1) := by simp [e]
  have hll : (l.map RConf.enc).length = l.length := by simp
  have hx : (l.map RConf.enc)[n.toNat]? = some (RConf.enc x) := by simp [e, hn]
  have hrl : (t.routers.map RConf.enc).length = t.routers.length := by simp
  have hy : (t.routers.map RConf.enc)[n.toNat]? = some x.enc := by rw [hl1]; exact hx
  have hm' : (t.routers.map RConf.enc).length = l.length := by simp [hl1]
  have hrl2 : t.routers.length = l.length := by rw [hl1]
  have m1 : (x.ls.ifs.map Ifc.enc).length = x.ls.ifs.length := by simp
  have ha : bM l = bM done ++ (x.ls.ifs.map Ifc.addr ++ bM r) := by rw [e, mD]; rfl
  have hal : (bM l).length = (bM done).length + (x.ls.ifs.length + (bM r).length) := by rw [ha]; simp
  subst hes hm
  refine evl ?_
  repeat' (first | refine ae ?_ | (refine ab ?_ ?_ <;> intro h))
  refine am [18, 19, 20, 3, 1, 4, 8, 9, 7] [200, 65] ?_
  rw [m1]
  exact pB x.ls.ifs _ t x rfl n ln (by omega) (by rw [hl1]; exact hl) hy out (by rw [ho]; omega) _ (fun T H c g => py l t hl1 hb hl ln hln r (done ++ [x]) (out ++ x.ls.ifs.map Ifc.addr) _ _ g T H c (n + 1) (by simp [e]) (by simp [hn] <;> omega) rfl rfl (by rw [ho, mD]; simp [bM])) (by omega) _ rfl x.ls.ifs [] out _ _ _ _ _ _ 0 rfl rfl rfl rfl (by simp)
theorem uX (t : Topo) (ht : t.routers.length < 2 ^ 40) (hb : (bM t.routers).length < 2 ^ 30) : ax G 400 [.agg t.enc] [] ⟨.vs 0 0 (bM t.routers).length, [(false, .vec 1 ((bM t.routers).map cu))]⟩ := by
 have hll : (t.routers.map RConf.enc).length = t.routers.length := by simp
 refine aa (F := f400) rfl rfl (ah 300 _ _ _ _ ?_)
 repeat' (first | refine ae ?_ | (refine ab ?_ ?_ <;> intro h))
 refine lf 200 1 [(3, .vs 200 _ 0)] [] ⟨LeP.nilV _ _ _, trivial⟩ trivial ?_
 refine am [7, 8, 9, 3, 1] [200, 65] ?_
 rw [hll]
 exact py t.routers t rfl hb ht _ rfl t.routers [] [] [] 0 _ _ _ _ 0 rfl rfl rfl rfl rfl
end Go.AM.IR
namespace Go.AM.IR
def ifcZ : Ifc := ⟨0, ⟨0, 0⟩, 0, 0, 0, 0, 0, 0⟩
def fH (t : Topo) (e : LEnd) : Option Ifc :=
 if e.router < 0 then none else match t.routers[e.router.toNat]? with
 | none => none
 | some c => if e.ifc < 0 then none else c.ls.ifs[e.ifc.toNat]?
def r3 : Option Ifc → Ret
 | none => ⟨.tup [.agg ifcZ.enc, .bool false], []⟩
 | some x => ⟨.tup [.agg x.enc, .bool true], []⟩
theorem kL (t : Topo) (e : LEnd) (ht : t.routers.length < 2 ^ 40) (hf : ∀ c ∈ t.routers, c.ls.ifs.length < 2 ^ 40) : ax G 429 [.agg t.enc, .agg e.enc] [] (r3 (fH t e)) := by
 have hll : (t.routers.map RConf.enc).length = t.routers.length := by simp
 by_cases h1 : e.router < 0
 ·rw [fH, if_pos h1]
  refine aa (F := f429) rfl rfl (ah 300 _ _ _ _ ?_)
  repeat' (first | refine ae ?_ | (refine ab ?_ ?_ <;> intro h))
  refine ag ?_; (conv => whnf); refine Go.AM.finC ?_; rfl
 rw [fH, if_neg h1]
 by_cases h2 : t.routers.length ≤ e.router.toNat
 ·rw [List.getElem?_eq_none h2]
  refine aa (F := f429) rfl rfl (ah 300 _ _ _ _ ?_)
  repeat' (first | refine ae ?_ | (refine ab ?_ ?_ <;> intro h))
  refine ag ?_; (conv => whnf); refine Go.AM.finC ?_; rfl
 obtain ⟨c, hc⟩ : ∃ c, t.routers[e.router.toNat]? = some c := ⟨_, List.getElem?_eq_getElem (by omega)⟩
 rw [hc]
 have hx : (t.routers.map RConf.enc)[e.router.toNat]? = some c.enc := by simp [hc]
 have hcl := hf c (List.mem_of_getElem? hc)
 have hl2 : (c.ls.ifs.map Ifc.enc).length = c.ls.ifs.length := by simp
 show ax G 429 [.agg t.enc, .agg e.enc] [] (r3 (if e.ifc < 0 then none else c.ls.ifs[e.ifc.toNat]?))
 by_cases h3 : e.ifc < 0
 ·rw [if_pos h3]
  refine aa (F := f429) rfl rfl (ah 300 _ _ _ _ ?_)
  repeat' (first | refine ae ?_ | (refine ab ?_ ?_ <;> intro h))
  refine ag ?_; (conv => whnf); refine Go.AM.finC ?_; rfl
 rw [if_neg h3]
 by_cases h4 : c.ls.ifs.length ≤ e.ifc.toNat
 ·rw [List.getElem?_eq_none h4]
  refine aa (F := f429) rfl rfl (ah 300 _ _ _ _ ?_)
  repeat' (first | refine ae ?_ | (refine ab ?_ ?_ <;> intro h))
  refine ag ?_; (conv => whnf); refine Go.AM.finC ?_; rfl
 obtain ⟨f, hf'⟩ : ∃ f, c.ls.ifs[e.ifc.toNat]? = some f := ⟨_, List.getElem?_eq_getElem (by omega)⟩
 rw [hf']
 have hy : (c.ls.ifs.map Ifc.enc)[e.ifc.toNat]? = some f.enc := by simp [hf']
 refine aa (F := f429) rfl rfl (ah 300 _ _ _ _ ?_)
 repeat' (first | refine ae ?_ | (refine ab ?_ ?_ <;> intro h))
 refine ag ?_; (conv => whnf); refine Go.AM.finC ?_; rfl
end Go.AM.IR
namespace Go.AM.IR
section
variable {kv : AV → Prop}
theorem ba {q : IntKind} {a b : Int} (h : a = b) (k : kv (.bool true)) : ∃ v, bj .eql (.int q a) (.int q b) = some v ∧ kv v := ⟨.bool true, by simp [bj, h], k⟩
theorem aQ {q : IntKind} {a b : Int} (h : ¬ a = b) (k : kv (.bool false)) : ∃ v, bj .eql (.int q a) (.int q b) = some v ∧ kv v := ⟨.bool false, by simp [bj, h], k⟩
theorem zNeQ {q : IntKind} {a b : Int} (h : a = b) (k : kv (.bool false)) : ∃ v, bj .neq (.int q a) (.int q b) = some v ∧ kv v := ⟨.bool false, by simp [bj, h], k⟩
end
end Go.AM.IR
namespace Go.AM.IR
structure Sess where
 a : Int
 b : Int
 x : Int
 y : Int
 z : Bool
def Sess.enc (s : Sess) : List AV := [.int .i64 s.a, .int .i64 s.b, .int .i64 s.x, .int .i64 s.y, .bool s.z]
def fw (l : List Sess) (r p : Int) : Bool := l.any fun s => (decide (s.a = r) && decide (s.x = p)) || (decide (s.b = r) && decide (s.y = p))
theorem LX (s : Sess) (l : List Sess) (r p : Int) : fw (s :: l) r p = (((decide (s.a = r) && decide (s.x = p)) || (decide (s.b = r) && decide (s.y = p))) || fw l r p) := rfl
theorem u6 (l : List Sess) (hl : l.length < 2 ^ 40) (u p : Int) : ∀ (rest done : List Sess) (T : List (Nat × AV)) (H : aq) (c : Nat) (n : Int) (e : l = done ++ rest) (hn : n = done.length),
  Ev G ⟨Qq, ⟨(10, .int .i64 n) :: (2, .int .i64 p) :: (0, .sl 5 (l.map Sess.enc)) :: (1, .int .i64 u) :: (9, .int .i64 l.length) :: T, H, c⟩, [.t 6], 0⟩ ⟨.bool (fw rest u p), []⟩
 | [], done, T, H, c, n, e, hn => by
  have hd : l.length = done.length := by simp [e]
  have m1 : (l.map Sess.enc).length = l.length := by simp
  refine evl ?_
  repeat' (first | refine ae ?_ | (refine ab ?_ ?_ <;> intro h))
  refine ag ?_; rfl
 | x :: r, done, T, H, c, n, e, hn => by
  have hd : l.length = done.length + (r.length + 1) := by simp [e]
  have m1 : (l.map Sess.enc).length = l.length := by simp
  have hx : (l.map Sess.enc)[n.toNat]? = some x.enc := by simp [e, hn]
  have ih := fun T H c => u6 l hl u p r (done ++ [x]) T H c (n + 1) (by simp [e]) (by simp [hn])
  rw [LX]
  by_cases a : x.a = u
  ·by_cases b : x.x = p
   ·simp only [decide_eq_true a, decide_eq_true b, Bool.and_true, Bool.true_or]
    refine evl ?_
    repeat' ((conv => whnf); first | refine ba a ?_ | refine ba b ?_ | refine aP ?_ | (refine ab ?_ ?_ <;> intro h))
    refine ag ?_; rfl
   by_cases a' : x.b = u
   ·by_cases b' : x.y = p
    ·simp only [decide_eq_true a', decide_eq_true b', Bool.and_true, Bool.true_or, Bool.or_true]
     refine evl ?_
     repeat' ((conv => whnf); first | refine ba a ?_ | refine aQ b ?_ | refine ba a' ?_ | refine ba b' ?_ | refine aP ?_ | (refine ab ?_ ?_ <;> intro h))
     refine ag ?_; rfl
    ·simp only [decide_eq_false b, decide_eq_false b', Bool.and_false, Bool.false_or, Bool.or_self]
     refine evl ?_
     repeat' ((conv => whnf); first | refine ba a ?_ | refine aQ b ?_ | refine ba a' ?_ | refine aQ b' ?_ | refine aP ?_ | (refine ab ?_ ?_ <;> intro h))
     refine am [10, 2, 0, 1, 9] [] ?_
     exact ih _ _ _
   ·simp only [decide_eq_false b, decide_eq_false a', Bool.and_false, Bool.false_and, Bool.false_or, Bool.or_self]
    refine evl ?_
    repeat' ((conv => whnf); first | refine ba a ?_ | refine aQ b ?_ | refine aQ a' ?_ | refine aP ?_ | (refine ab ?_ ?_ <;> intro h))
    refine am [10, 2, 0, 1, 9] [] ?_
    exact ih _ _ _
  ·by_cases a' : x.b = u
   ·by_cases b' : x.y = p
    ·simp only [decide_eq_true a', decide_eq_true b', Bool.and_true, Bool.true_or, Bool.or_true]
     refine evl ?_
     repeat' ((conv => whnf); first | refine aQ a ?_ | refine ba a' ?_ | refine ba b' ?_ | refine aP ?_ | (refine ab ?_ ?_ <;> intro h))
     refine ag ?_; rfl
    ·simp only [decide_eq_false a, decide_eq_false b', Bool.and_false, Bool.false_and, Bool.false_or, Bool.or_self]
     refine evl ?_
     repeat' ((conv => whnf); first | refine aQ a ?_ | refine ba a' ?_ | refine aQ b' ?_ | refine aP ?_ | (refine ab ?_ ?_ <;> intro h))
     refine am [10, 2, 0, 1, 9] [] ?_
     exact ih _ _ _
   ·simp only [decide_eq_false a, decide_eq_false a', Bool.and_false, Bool.false_and, Bool.false_or, Bool.or_self]
    refine evl ?_
    repeat' ((conv => whnf); first | refine aQ a ?_ | refine aQ a' ?_ | refine aP ?_ | (refine ab ?_ ?_ <;> intro h))
    refine am [10, 2, 0, 1, 9] [] ?_
    exact ih _ _ _
theorem mT (l : List Sess) (hl : l.length < 2 ^ 40) (u p : Int) : ax G 425 [.sl 5 (l.map Sess.enc), .int .i64 u, .int .i64 p] [] ⟨.bool (fw l u p), []⟩ := by
 have m1 : (l.map Sess.enc).length = l.length := by simp
 refine aa (F := f425) rfl rfl (ah 300 _ _ _ _ ?_)
 repeat' (first | refine ae ?_ | (refine ab ?_ ?_ <;> intro h))
 refine am [10, 2, 0, 1, 9] [] ?_
 rw [m1]
 exact u6 l hl u p l [] _ _ _ 0 rfl rfl
def fq (q w : RConf) (p z : PeerC) : Bool := ((q.hasPV && w.hasPV) && decide (p.addr = z.loc)) && decide (z.addr = p.loc)
def e7 (q w : RConf) (p z : PeerC) (i j k m : Int) (o : List Sess) : List Sess := if fq q w p z = true ∧ fw o i k = false ∧ fw o j m = false then o ++ [⟨i, j, k, m, false⟩] else o
def eU (q w : RConf) (p : PeerC) (i j k : Int) : Int → List PeerC → List Sess → List Sess
 | _, [], o => o
 | m, z :: r, o => eU q w p i j k (m + 1) r (e7 q w p z i j k m o)
def eO (q : RConf) (p : PeerC) (i k : Int) : Int → List RConf → List Sess → List Sess
 | _, [], o => o
 | j, w :: r, o => eO q p i k (j + 1) r (eU q w p i j k 0 w.pv.peers o)
def eN (q : RConf) (i : Int) (l : List RConf) : Int → List PeerC → List Sess → List Sess
 | _, [], o => o
 | k, p :: r, o => eN q i l (k + 1) r (eO q p i k (i + 1) l o)
def gb : Int → List RConf → List Sess → List Sess
 | _, [], o => o
 | i, q :: r, o => gb (i + 1) r (eN q i r 0 q.pv.peers o)
def d8 (t : Topo) : List Sess := gb 0 t.routers []
end Go.AM.IR
namespace Go.AM.IR
@[simp] theorem Me : ∀ l : List Sess, aG (l.map Sess.enc) = true
 | [] => rfl
 | x :: r => by simp only [List.map_cons, aG, Me r]; simp [Sess.enc, aH, AV.pure]
theorem fc (q w : RConf) (p z : PeerC) (i j k m : Int) (o : List Sess) (h : fq q w p z = false) : e7 q w p z i j k m o = o := by rw [e7, if_neg (by simp [h])]
theorem vj (t : Topo) (ht : t.routers.length < 2 ^ 40) (i j k : Nat) (q w : RConf) (p : PeerC) (hq : t.routers[i]? = some q) (hw : t.routers[j]? = some w) (hp : q.pv.peers[k]? = some p) (hql : q.pv.peers.length < 2 ^ 40) (hl : w.pv.peers.length < 2 ^ 40) (P12 P13 P23 P24 : AV) (R : Ret) (O : List Sess)
  (go : ∀ (g : Nat) (T : List (Nat × AV)) (H : aq) (c : Nat), Ev G ⟨wg, ⟨(5, .int .i64 (k : Int)) :: (6, .int .i64 ((j : Int) + 1)) :: (4, .int .i64 (i : Int)) :: (3, .vs 180 g O.length) :: (1, .ref 65 1 0) :: (12, P12) :: (13, P13) :: (23, P23) :: (24, P24) :: T, (180, some (g, .vec 5 (O.map Sess.enc))) :: (65, some (1, .cells t.enc)) :: H, c⟩, [.t 2], 0⟩ R) :
  ∀ (rest done : List PeerC) (out : List Sess) (g : Nat) (T : List (Nat × AV)) (H : aq) (c : Nat) (n : Int) (e : w.pv.peers = done ++ rest) (hn : n = done.length) (hb : out.length + rest.length < 2 ^ 30) (hO : eU q w p i j k n rest out = O),
  Ev G ⟨NL, ⟨(44, .int .i64 n) :: (5, .int .i64 (k : Int)) :: (6, .int .i64 (j : Int)) :: (4, .int .i64 (i : Int)) :: (3, .vs 180 g out.length) :: (1, .ref 65 1 0) :: (12, P12) :: (13, P13) :: (23, P23) :: (24, P24) :: (43, .int .i64 w.pv.peers.length) :: T, (180, some (g, .vec 5 (out.map Sess.enc))) :: (65, some (1, .cells t.enc)) :: H, c⟩, [.t 2], 0⟩ R
 | [], done, out, g, T, H, c, n, e, hn, hb, hO => by
  have hd : w.pv.peers.length = done.length := by simp [e]
  have hj : j < t.routers.length := (List.getElem?_eq_some_iff.1 hw).1
  rw [eU] at hO
  subst hO
  refine evl ?_
  repeat' (first | refine ae ?_ | (refine ab ?_ ?_ <;> intro h))
  refine am [5, 6, 4, 3, 1, 12, 13, 23, 24] [180, 65] ?_
  exact go _ _ _ _
 | z :: r, done, out, g, T, H, c, n, e, hn, hb, hO => by
  have hd : w.pv.peers.length = done.length + (r.length + 1) := by simp [e]
  have hi : i < t.routers.length := (List.getElem?_eq_some_iff.1 hq).1
  have hj : j < t.routers.length := (List.getElem?_eq_some_iff.1 hw).1
  have hk : k < q.pv.peers.length := (List.getElem?_eq_some_iff.1 hp).1
  have m1 : (t.routers.map RConf.enc).length = t.routers.length := by simp
  have hq1 : (t.routers.map RConf.enc)[((i : Nat) : Int).toNat]? = some q.enc := by simp [hq]
  have hw1 : (t.routers.map RConf.enc)[((j : Nat) : Int).toNat]? = some w.enc := by simp [hw]
  have hp1 : (q.pv.peers.map PeerC.enc)[((k : Nat) : Int).toNat]? = some p.enc := by simp [hp]
  have hz1 : (w.pv.peers.map PeerC.enc)[n.toNat]? = some z.enc := by simp [e, hn]
  have hb0 : (r.length + 1) = (z :: r).length := rfl
  have h1 := mT out (by omega) i k
  have h2 := mT out (by omega) j n
  have ih := fun out' hb' hO' g T H c => vj t ht i j k q w p hq hw hp hql hl P12 P13 P23 P24 R O go r (done ++ [z]) out' g T H c (n + 1) (by simp [e]) (by simp [hn]) hb' hO'
  rw [eU] at hO
  cases a : q.hasPV with
  | false =>
   rw [fc _ _ _ _ _ _ _ _ _ (by simp [fq, a])] at hO
   refine evl ?_
   repeat' (first | refine ae ?_ | (refine ab ?_ ?_ <;> intro h))
   all_goals try (exfalso; simp_all only [Bool.false_eq_true, Bool.true_eq_false]; done)
   refine am [44, 5, 6, 4, 3, 1, 12, 13, 23, 24, 43] [180, 65] ?_
   exact ih out (by omega) hO _ _ _ _
  | true =>
  cases b : w.hasPV with
  | false =>
   rw [fc _ _ _ _ _ _ _ _ _ (by simp [fq, b])] at hO
   refine evl ?_
   repeat' (first | refine ae ?_ | (refine ab ?_ ?_ <;> intro h))
   all_goals try (exfalso; simp_all only [Bool.false_eq_true, Bool.true_eq_false]; done)
   refine am [44, 5, 6, 4, 3, 1, 12, 13, 23, 24, 43] [180, 65] ?_
   exact ih out (by omega) hO _ _ _ _
  | true =>
  by_cases c1 : p.addr = z.loc
  case neg =>
   rw [fc _ _ _ _ _ _ _ _ _ (by simp [fq, c1])] at hO
   refine evl ?_
   repeat' ((conv => whnf); first | refine aQ c1 ?_ | refine aP ?_ | (refine ab ?_ ?_ <;> intro h))
   all_goals try (exfalso; simp_all only [Bool.false_eq_true, Bool.true_eq_false]; done)
   refine am [44, 5, 6, 4, 3, 1, 12, 13, 23, 24, 43] [180, 65] ?_
   exact ih out (by omega) hO _ _ _ _
  by_cases c2 : p.loc = z.addr
  case neg =>
   rw [fc _ _ _ _ _ _ _ _ _ (by simp only [fq, decide_eq_false (fun v : z.addr = p.loc => c2 v.symm), Bool.and_false])] at hO
   refine evl ?_
   repeat' ((conv => whnf); first | refine ba c1 ?_ | refine aQ c2 ?_ | refine aP ?_ | (refine ab ?_ ?_ <;> intro h))
   all_goals try (exfalso; simp_all only [Bool.false_eq_true, Bool.true_eq_false]; done)
   refine am [44, 5, 6, 4, 3, 1, 12, 13, 23, 24, 43] [180, 65] ?_
   exact ih out (by omega) hO _ _ _ _
  cases d1 : fw out i k with
  | true =>
   rw [d1] at h1
   rw [e7, if_neg (by simp [d1])] at hO
   refine evl ?_
   repeat' ((conv => whnf); first | refine ba c1 ?_ | refine ba c2 ?_ | refine aP ?_ | refine kZ [(180, _, _)] ⟨rfl, pz trivial⟩ (h1) ?_ | (refine ab ?_ ?_ <;> intro h))
   all_goals try (exfalso; simp_all only [Bool.false_eq_true, Bool.true_eq_false]; done)
   refine am [44, 5, 6, 4, 3, 1, 12, 13, 23, 24, 43] [180, 65] ?_
   exact ih out (by omega) hO _ _ _ _
  | false =>
  rw [d1] at h1
  cases d2 : fw out j n with
  | true =>
   rw [d2] at h2
   rw [e7, if_neg (by simp [d2])] at hO
   refine evl ?_
   repeat' ((conv => whnf); first | refine ba c1 ?_ | refine ba c2 ?_ | refine aP ?_ | refine kZ [(180, _, _)] ⟨rfl, pz trivial⟩ (h1) ?_ | refine kZ [(180, _, _)] ⟨rfl, pz trivial⟩ (h2) ?_ | (refine ab ?_ ?_ <;> intro h))
   all_goals try (exfalso; simp_all only [Bool.false_eq_true, Bool.true_eq_false]; done)
   refine am [44, 5, 6, 4, 3, 1, 12, 13, 23, 24, 43] [180, 65] ?_
   exact ih out (by omega) hO _ _ _ _
  | false =>
  rw [d2] at h2
  rw [e7, if_pos ⟨by simp [fq, a, b, c1, ← c2], d1, d2⟩] at hO
  refine evl ?_
  repeat' ((conv => whnf); first | refine ba c1 ?_ | refine ba c2 ?_ | refine aP ?_ | refine kZ [(180, _, _)] ⟨rfl, pz trivial⟩ (h1) ?_ | refine kZ [(180, _, _)] ⟨rfl, pz trivial⟩ (h2) ?_ | (refine ab ?_ ?_ <;> intro h))
  all_goals try (exfalso; simp_all only [Bool.false_eq_true, Bool.true_eq_false]; done)
  refine am [44, 5, 6, 4, 3, 1, 12, 13, 23, 24, 43] [180, 65] ?_
  have hO2 := ih (out ++ [⟨i, j, k, n, false⟩]) (by simp; omega) hO
  rw [List.map_append, List.length_append] at hO2
  exact hO2 _ _ _ _
end Go.AM.IR
namespace Go.AM.IR
def szR (l : List RConf) : Nat := (l.map fun c => c.pv.peers.length).sum
theorem lI (q w : RConf) (p : PeerC) (i j k : Int) : ∀ (r : List PeerC) (m : Int) (o : List Sess), (eU q w p i j k m r o).length ≤ o.length + r.length
 | [], m, o => by simp [eU]
 | z :: r, m, o => by
  rw [eU]
  have h := lI q w p i j k r (m + 1) (e7 q w p z i j k m o)
  have h2 : (e7 q w p z i j k m o).length ≤ o.length + 1 := by rw [e7]; split <;> simp
  simp only [List.length_cons]; omega
theorem vi (t : Topo) (ht : t.routers.length < 2 ^ 40) (i k : Nat) (q : RConf) (p : PeerC) (hq : t.routers[i]? = some q) (hp : q.pv.peers[k]? = some p) (hpl : ∀ c ∈ t.routers, c.pv.peers.length < 2 ^ 40) (P12 P23 : AV) (R : Ret) (O : List Sess)
  (go : ∀ (g : Nat) (T : List (Nat × AV)) (H : aq) (c : Nat), Ev G ⟨we, ⟨(4, .int .i64 (i : Int)) :: (3, .vs 180 g O.length) :: (1, .ref 65 1 0) :: (24, .int .i64 ((k : Int) + 1)) :: (12, P12) :: (13, .int .i64 (i : Int)) :: (23, P23) :: T, (180, some (g, .vec 5 (O.map Sess.enc))) :: (65, some (1, .cells t.enc)) :: H, c⟩, [.t 2], 0⟩ R) :
  ∀ (rest : List RConf) (j : Nat) (out : List Sess) (g : Nat) (T : List (Nat × AV)) (H : aq) (c : Nat) (e : t.routers.drop j = rest) (hj : j ≤ t.routers.length) (hb : out.length + szR rest < 2 ^ 30) (hO : eO q p i k j rest out = O),
  Ev G ⟨wg, ⟨(5, .int .i64 (k : Int)) :: (6, .int .i64 (j : Int)) :: (4, .int .i64 (i : Int)) :: (3, .vs 180 g out.length) :: (1, .ref 65 1 0) :: (12, P12) :: (13, .int .i64 (i : Int)) :: (23, P23) :: (24, .int .i64 (k : Int)) :: T, (180, some (g, .vec 5 (out.map Sess.enc))) :: (65, some (1, .cells t.enc)) :: H, c⟩, [.t 2], 0⟩ R
 | [], j, out, g, T, H, c, e, hj, hb, hO => by
  have hd : t.routers.length ≤ j := List.drop_eq_nil_iff.1 e
  have m1 : (t.routers.map RConf.enc).length = t.routers.length := by simp
  have hqm := List.mem_of_getElem? hq
  have hql := hpl q hqm
  have hk : k < q.pv.peers.length := (List.getElem?_eq_some_iff.1 hp).1
  rw [eO] at hO
  subst hO
  refine evl ?_
  repeat' (first | refine ae ?_ | (refine ab ?_ ?_ <;> intro h))
  refine am [4, 3, 1, 24, 12, 13, 23] [180, 65] ?_
  exact go _ _ _ _
 | w :: r, j, out, g, T, H, c, e, hj, hb, hO => by
  have hjl : j < t.routers.length := by
   rcases Nat.lt_or_ge j t.routers.length with h | h
   ·exact h
   ·rw [List.drop_eq_nil_iff.2 h] at e; cases e
  have hwe := List.drop_eq_getElem_cons hjl
  rw [hwe] at e
  obtain ⟨e1, e2⟩ := List.cons.inj e
  have hw : t.routers[j]? = some w := by rw [List.getElem?_eq_getElem hjl, e1]
  have hw1 : (t.routers.map RConf.enc)[((j : Nat) : Int).toNat]? = some w.enc := by simp [hw]
  have m1 : (t.routers.map RConf.enc).length = t.routers.length := by simp
  have m2 : (w.pv.peers.map PeerC.enc).length = w.pv.peers.length := by simp
  have hwl := hpl w (List.mem_of_getElem? hw)
  have hql := hpl q (List.mem_of_getElem? hq)
  have hs : szR (w :: r) = w.pv.peers.length + szR r := by simp [szR]
  rw [hs] at hb
  rw [eO] at hO
  have hln := lI q w p i j k w.pv.peers 0 out
  refine evl ?_
  repeat' (first | refine ae ?_ | (refine ab ?_ ?_ <;> intro h))
  refine am [44, 5, 6, 4, 3, 1, 12, 13, 23, 24, 43] [180, 65] ?_
  rw [m2]
  refine vj t ht i j k q w p hq hw hp hql hwl P12 _ P23 _ R (eU q w p i j k 0 w.pv.peers out) (fun g T H c => ?_) w.pv.peers [] out _ _ _ _ 0 rfl rfl (by omega) rfl
  have ih := vi t ht i k q p hq hp hpl P12 P23 R O go r (j + 1) (eU q w p i j k 0 w.pv.peers out) g T H c e2 (by omega) (by omega) (by rw [Int.natCast_add]; exact hO)
  rw [Int.natCast_add] at ih
  exact ih
end Go.AM.IR
namespace Go.AM.IR
theorem lG (q : RConf) (p : PeerC) (i k : Int) : ∀ (r : List RConf) (j : Int) (o : List Sess), (eO q p i k j r o).length ≤ o.length + szR r
 | [], j, o => by simp [eO, szR]
 | w :: r, j, o => by
  rw [eO]
  have h := lG q p i k r (j + 1) (eU q w p i j k 0 w.pv.peers o)
  have h2 := lI q w p i j k w.pv.peers 0 o
  have hs : szR (w :: r) = w.pv.peers.length + szR r := by simp [szR]
  omega
theorem vh (t : Topo) (ht : t.routers.length < 2 ^ 40) (i : Nat) (q : RConf) (hq : t.routers[i]? = some q) (hpl : ∀ c ∈ t.routers, c.pv.peers.length < 2 ^ 40) (P12 : AV) (R : Ret) (O : List Sess)
  (go : ∀ (g : Nat) (T : List (Nat × AV)) (H : aq) (c : Nat), Ev G ⟨wd, ⟨(3, .vs 180 g O.length) :: (1, .ref 65 1 0) :: (13, .int .i64 ((i : Int) + 1)) :: (12, P12) :: T, (180, some (g, .vec 5 (O.map Sess.enc))) :: (65, some (1, .cells t.enc)) :: H, c⟩, [.t 2], 0⟩ R) :
  ∀ (rest : List PeerC) (k : Nat) (out : List Sess) (g : Nat) (T : List (Nat × AV)) (H : aq) (c : Nat) (e : q.pv.peers.drop k = rest) (hk : k ≤ q.pv.peers.length) (hb : out.length + rest.length * szR (t.routers.drop (i + 1)) < 2 ^ 30) (hO : eN q i (t.routers.drop (i + 1)) k rest out = O),
  Ev G ⟨we, ⟨(4, .int .i64 (i : Int)) :: (3, .vs 180 g out.length) :: (1, .ref 65 1 0) :: (24, .int .i64 (k : Int)) :: (12, P12) :: (13, .int .i64 (i : Int)) :: (23, .int .i64 q.pv.peers.length) :: T, (180, some (g, .vec 5 (out.map Sess.enc))) :: (65, some (1, .cells t.enc)) :: H, c⟩, [.t 2], 0⟩ R
 | [], k, out, g, T, H, c, e, hk, hb, hO => by
  have hd : q.pv.peers.length ≤ k := List.drop_eq_nil_iff.1 e
  have hi : i < t.routers.length := (List.getElem?_eq_some_iff.1 hq).1
  rw [eN] at hO
  subst hO
  refine evl ?_
  repeat' (first | refine ae ?_ | (refine ab ?_ ?_ <;> intro h))
  refine am [3, 1, 13, 12] [180, 65] ?_
  exact go _ _ _ _
 | p :: r, k, out, g, T, H, c, e, hk, hb, hO => by
  have hkl : k < q.pv.peers.length := by
   rcases Nat.lt_or_ge k q.pv.peers.length with h | h
   ·exact h
   ·rw [List.drop_eq_nil_iff.2 h] at e; cases e
  have hwe := List.drop_eq_getElem_cons hkl
  rw [hwe] at e
  obtain ⟨e1, e2⟩ := List.cons.inj e
  have hi : i < t.routers.length := (List.getElem?_eq_some_iff.1 hq).1
  have hp : q.pv.peers[k]? = some p := by rw [List.getElem?_eq_getElem hkl, e1]
  have hql := hpl q (List.mem_of_getElem? hq)
  rw [eN] at hO
  rw [List.length_cons, Nat.succ_mul] at hb
  have hln := lG q p i k (t.routers.drop (i + 1)) (i + 1) out
  refine evl ?_
  repeat' (first | refine ae ?_ | (refine ab ?_ ?_ <;> intro h))
  refine am [5, 6, 4, 3, 1, 12, 13, 23, 24] [180, 65] ?_
  have hl := vi t ht i k q p hq hp hpl P12 (.int .i64 q.pv.peers.length) R (eO q p i k (i + 1) (t.routers.drop (i + 1)) out) (fun g T H c => by
   have ih := vh t ht i q hq hpl P12 R O go r (k + 1) (eO q p i k (i + 1) (t.routers.drop (i + 1)) out) g T H c e2 (by omega) (by omega) (by rw [Int.natCast_add]; exact hO)
   rw [Int.natCast_add] at ih
   exact ih) (t.routers.drop (i + 1)) (i + 1) out
  rw [Int.natCast_add] at hl
  exact hl _ _ _ _ rfl (by omega) (by omega) rfl
theorem lD (q : RConf) (i : Int) (l : List RConf) : ∀ (r : List PeerC) (k : Int) (o : List Sess), (eN q i l k r o).length ≤ o.length + r.length * szR l
 | [], k, o => by simp [eN]
 | p :: r, k, o => by
  rw [eN, List.length_cons, Nat.succ_mul]
  have h := lD q i l r (k + 1) (eO q p i k (i + 1) l o)
  have h2 := lG q p i k l (i + 1) o
  omega
end Go.AM.IR
namespace Go.AM.IR
def szT : List RConf → Nat
 | [] => 0
 | q :: r => q.pv.peers.length * szR r + szT r
theorem pM : ∀ (r : List RConf) (i : Int) (o : List Sess), (gb i r o).length ≤ o.length + szT r
 | [], i, o => by simp [gb]
 | q :: r, i, o => by
  rw [gb, szT]
  have h := pM r (i + 1) (eN q i r 0 q.pv.peers o)
  have h2 := lD q i r q.pv.peers 0 o
  omega
theorem vg (t : Topo) (ht : t.routers.length < 2 ^ 40) (hpl : ∀ c ∈ t.routers, c.pv.peers.length < 2 ^ 40) (O : List Sess) :
  ∀ (rest : List RConf) (i : Nat) (out : List Sess) (g : Nat) (T : List (Nat × AV)) (H : aq) (c : Nat) (e : t.routers.drop i = rest) (hi : i ≤ t.routers.length) (hb : out.length + szT rest < 2 ^ 30) (hO : gb i rest out = O),
  Ev G ⟨wd, ⟨(3, .vs 180 g out.length) :: (1, .ref 65 1 0) :: (13, .int .i64 (i : Int)) :: (12, .int .i64 t.routers.length) :: T, (180, some (g, .vec 5 (out.map Sess.enc))) :: (65, some (1, .cells t.enc)) :: H, c⟩, [.t 2], 0⟩ ⟨.vs 0 0 O.length, [(false, .vec 5 (O.map Sess.enc))]⟩
 | [], i, out, g, T, H, c, e, hi, hb, hO => by
  have hd : t.routers.length ≤ i := List.drop_eq_nil_iff.1 e
  rw [gb] at hO
  subst hO
  refine evl ?_
  repeat' (first | refine ae ?_ | (refine ab ?_ ?_ <;> intro h))
  refine uF 180 _ _ _ rfl rfl puL ?_
  rfl
 | q :: r, i, out, g, T, H, c, e, hi, hb, hO => by
  have hil : i < t.routers.length := by
   rcases Nat.lt_or_ge i t.routers.length with h | h
   ·exact h
   ·rw [List.drop_eq_nil_iff.2 h] at e; cases e
  have hwe := List.drop_eq_getElem_cons hil
  rw [hwe] at e
  obtain ⟨e1, e2⟩ := List.cons.inj e
  have hq : t.routers[i]? = some q := by rw [List.getElem?_eq_getElem hil, e1]
  have hq1 : (t.routers.map RConf.enc)[((i : Nat) : Int).toNat]? = some q.enc := by simp [hq]
  have m1 : (t.routers.map RConf.enc).length = t.routers.length := by simp
  have m2 : (q.pv.peers.map PeerC.enc).length = q.pv.peers.length := by simp
  have hql := hpl q (List.mem_of_getElem? hq)
  rw [gb] at hO
  rw [szT] at hb
  have hln := lD q i r q.pv.peers 0 out
  refine evl ?_
  repeat' (first | refine ae ?_ | (refine ab ?_ ?_ <;> intro h))
  refine am [4, 3, 1, 24, 12, 13, 23] [180, 65] ?_
  rw [m2]
  exact vh t ht i q hq hpl _ _ (eN q i r 0 q.pv.peers out) (fun g T H c => by
   have ih := vg t ht hpl O r (i + 1) (eN q i r 0 q.pv.peers out) g T H c e2 (by omega) (by omega) (by rw [Int.natCast_add]; exact hO)
   rw [Int.natCast_add] at ih
   exact ih) q.pv.peers 0 out _ _ _ _ rfl (by omega) (by rw [e2]; omega) (by rw [e2]; rfl)
theorem tq (t : Topo) (ht : t.routers.length < 2 ^ 40) (hpl : ∀ c ∈ t.routers, c.pv.peers.length < 2 ^ 40) (hb : szT t.routers < 2 ^ 30) : ax G 390 [.agg t.enc] [] ⟨.vs 0 0 (d8 t).length, [(false, .vec 5 ((d8 t).map Sess.enc))]⟩ := by
 have m1 : (t.routers.map RConf.enc).length = t.routers.length := by simp
 refine aa (F := f390) rfl rfl (ah 300 _ _ _ _ ?_)
 repeat' (first | refine ae ?_ | (refine ab ?_ ?_ <;> intro h))
 refine lf 180 5 [(3, .vs 180 _ 0)] [] ⟨LeP.nilV _ _ _, trivial⟩ trivial ?_
 refine am [3, 1, 13, 12] [180, 65] ?_
 rw [m1]
 exact vg t ht hpl (d8 t) t.routers 0 [] _ _ _ _ rfl (by omega) (by simpa using hb) rfl
end Go.AM.IR
